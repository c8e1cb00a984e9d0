import Derived.Test.YtnobhkmpkichdaaGreatPress5
import Derived.Test.YtnobhkmpkichdaaGreatPFnExactViewsOkx0
namespace Go.Proofs.YtnobhkmpkichdaaGreat.PFnExactViewsOk
open Go.RowKit YtnobhkmpkichdaaGreatW.PrintWords YtnobhkmpkichdaaGreatW.PrintLast YtnobhkmpkichdaaGreatW.PrintMore
attribute [local go_sem] aDf aDi aEf aEe aCs aCt aDh aDg
set_option linter.unusedVariables false
set_option maxHeartbeats 8000000
set_option maxRecDepth 100000
set_option linter.unusedSimpArgs false
def gX.f (aA aD : Int) (aH : ByteArray) (a1 : Int) : Option Int := if (wrap64 (a1 - (aH.size : Int))) < 0 then (some (-1)) else (some (wrap64 (a1 - (aH.size : Int))))
theorem gX.calls (aA aD : Int) (aH : ByteArray) (a1 r : Int) (w : World) (h : gX.f aA aD aH a1 = some r) :
  Calls Tryz.prog 46 #[.agg #[.int .i64 aA, .int .i64 aD, .string aH], .int .i64 a1] w fun e w' => e = .returned (.int .i64 r) ∧ Below w.heap.size w w' := by
 have b68 := Tryz.underlying24
 have HB := am_ (Below.refl w.heap.size w)
 have H : (if (wrap64 (a1 - (aH.size : Int))) < 0 then (some (-1)) else (some (wrap64 (a1 - (aH.size : Int))))) = some r := h
 clear h
 by_cases c3 : (wrap64 (a1 - (aH.size : Int))) < 0
 ·rw [if_pos c3] at H
  have fC := decide_eq_true c3; clear c3; obtain rfl := Option.some.inj H
  go_enter Tryz.func46, Tryz.ntmps46
  go_wp2_with (first | ((with_reducible refine aAc (N := 2) rfl ?_); refine bx_ 2 #[.int .i64 aA, .int .i64 aD, .string aH] 24 ?_; intro cLS hg w4 hbox hb; have b7V := am_ (hbox); have c9S := gw_ hg; replace HB := bs_ hb; clear hb hbox hg; obtain ⟨IG, JR, JN, IK, IW, IX⟩ := b3_ b7V))
  go_ret
  exact ⟨er_, bb_⟩
 ·rw [if_neg c3] at H
  have fC := decide_eq_false c3; clear c3; obtain rfl := Option.some.inj H
  go_enter Tryz.func46, Tryz.ntmps46
  go_wp2_with (first | ((with_reducible refine aAc (N := 2) rfl ?_); refine bx_ 2 #[.int .i64 aA, .int .i64 aD, .string aH] 24 ?_; intro cLS hg w6 hbox hb; have b7V := am_ (hbox); have c9S := gw_ hg; replace HB := bs_ hb; clear hb hbox hg; obtain ⟨uN, uU, FR, uY, uP, FJ⟩ := b3_ b7V))
  go_ret
  exact ⟨er_, bb_⟩

def fI.l0 : Nat → List S24 → Int → Int → Option Int
 | 0, _, _, _ => none
 | k + 1, x0, x1, x5 => if x5 < (x0.length : Int) then (if 0 ≤ x5 then ((gX.f ((nQ x0 x5).f0) ((nQ x0 x5).f1) ((nQ x0 x5).f2) x1).bind fun b4C => (if b4C < 0 then (some (-1)) else (fI.l0 k x0 b4C (wrap64 (x5 + 1))))) else (none)) else (some x1)
def fI.f (k : Nat) (l0 : List S24) (a1 : Int) : Option Int := if (wrap64 (a1 - (l0.length : Int))) < 0 then (some (-1)) else (fI.l0 k l0 (wrap64 (a1 - (l0.length : Int))) 0)
theorem fI.calls (k : Nat) (A0 : Option Addr) (c0 : Nat) (l0 : List S24) (a1 r : Int) (w : World) (hr0 : Kd.C k24 w A0 l0.length l0) (hc0 : l0.length ≤ c0) (h : fI.f k l0 a1 = some r) :
  Calls Tryz.prog 111 #[.slice A0 l0.length c0, .int .i64 a1] w fun e w' => e = .returned (.int .i64 r) ∧ Below w.heap.size w w' := by
 have b68 := Tryz.underlying24
 have jY := am_ hr0
 have oQ := am_ hc0
 clear hr0 hc0
 have HB := am_ (Below.refl w.heap.size w)
 have H : (if (wrap64 (a1 - (l0.length : Int))) < 0 then (some (-1)) else (fI.l0 k l0 (wrap64 (a1 - (l0.length : Int))) 0)) = some r := h
 clear h
 by_cases c3 : (wrap64 (a1 - (l0.length : Int))) < 0
 ·rw [if_pos c3] at H
  have fC := decide_eq_true c3; clear c3; obtain rfl := Option.some.inj H
  go_enter Tryz.func111, Tryz.ntmps111
  go_wp2
  go_ret
  exact ⟨er_, bb_⟩
 ·rw [if_neg c3] at H
  have fC := decide_eq_false c3; clear c3; have H' := am_ H; clear H
  go_enter Tryz.func111, Tryz.ntmps111
  go_wp2
  go_loopg [1, 5] k (fun kq v1 v5 w' => ∃ (nL : Int) (aC : Int), v1 = .int .i64 nL ∧ v5 = .int .i64 aC ∧ Aside0 (fI.l0 kq l0 nL aC = some r) ∧ Aside0 (kq ≤ k) ∧ Aside0 (Below w.heap.size w w'))
  case atStart => exact ⟨(wrap64 (a1 - (l0.length : Int))), (0), rs_, rs_, H', ⟨Nat.le_refl _⟩, ⟨bb_⟩⟩
  case round =>
   clear H'; (try clear c1); (try clear p2); (try clear c3); (try clear fC); obtain ⟨nL, aC, rfl, rfl, HA, jK, HB⟩ := hrel
   cases gk with
   | zero => exact absurd HA.out (by simp [fI.l0])
   | succ k1 =>
    have H := HA.out; clear HA; simp only [fI.l0] at H
    by_cases c4 : aC < (l0.length : Int)
    ·rw [if_pos c4] at H
     have iB := decide_eq_true c4; clear c4
     by_cases c5 : 0 ≤ aC
     ·rw [if_pos c5] at H
      have pV := decide_eq_true c5; clear c5; replace H := aBp H; obtain ⟨b4C, D6, H⟩ := H
      try dsimp only at H
      have A6 := am_ D6; clear D6; have gY := am_ H; clear H; (have c1B : 0 ≤ (aC : Int) := oa_); (have bUA : aC < (l0.length : Int) := oa_); obtain ⟨d8X, d6P, aY4, aQU, aMT⟩ := b2M jY.out aC c1B bUA; cases d6P; obtain ⟨aY4, aQU, aMT⟩ := aNo HB aY4 aQU aMT; replace c1B := eq_true c1B; replace bUA := eq_true bUA; have H := gY.out; clear gY
      by_cases c7 : b4C < 0
      ·rw [if_pos c7] at H
       have iV := decide_eq_true c7; clear c7; obtain rfl := Option.some.inj H
       go_wp2_with (first | ((with_reducible refine aAa (f := 46) rfl ?_); refine aBh (some 23) Tryz.func46 #[.agg #[.int .i64 ((nQ l0 aC).f0), .int .i64 ((nQ l0 aC).f1), .string ((nQ l0 aC).f2)], .int .i64 nL] ?_; (with_reducible refine (gX.calls _ _ _ _ _ _ A6.out).mono ?_); rintro e w8 ⟨rfl, hb⟩; refine ⟨_, rfl, ?_⟩; replace HB := bs_ hb; (try clear hb)))
       go_ret
       exact ⟨er_, bb_⟩
      ·rw [if_neg c7] at H
       have iV := decide_eq_false c7; clear c7; have H' := am_ H; clear H
       go_wp2_with (first | ((with_reducible refine aAa (f := 46) rfl ?_); refine aBh (some 23) Tryz.func46 #[.agg #[.int .i64 ((nQ l0 aC).f0), .int .i64 ((nQ l0 aC).f1), .string ((nQ l0 aC).f2)], .int .i64 nL] ?_; (with_reducible refine (gX.calls _ _ _ _ _ _ A6.out).mono ?_); rintro e w8 ⟨rfl, hb⟩; refine ⟨_, rfl, ?_⟩; replace HB := bs_ hb; (try clear hb)))
       go_roundg k1
       case measure => have := jK.out; omega
       case rel => exact ⟨(b4C), (wrap64 (aC + 1)), rs_, rs_, H', ⟨by have := jK.out; omega⟩, ⟨bb_⟩⟩
     ·rw [if_neg c5] at H
      exact nn_ H
    ·rw [if_neg c4] at H
     have iB := decide_eq_false c4; clear c4; obtain rfl := Option.some.inj H
     go_wp2
     go_ret
     exact ⟨er_, bb_⟩

def lD.f (k : Nat) (lT : List S24) (aD a1 : Int) : Option Int := (fI.f k lT a1).bind fun t105 => (if t105 < 0 then (some (-1)) else (some t105))
theorem lD.calls (k : Nat) (xL : Option Addr) (xY : Nat) (lT : List S24) (aD a1 r : Int) (w : World) (KC : Kd.C k24 w xL lT.length lT) (JU : lT.length ≤ xY) (h : lD.f k lT aD a1 = some r) :
  Calls Tryz.prog 91 #[.agg #[.slice xL lT.length xY, .int .i64 aD], .int .i64 a1] w fun e w' => e = .returned (.int .i64 r) ∧ Below w.heap.size w w' := by
 have bAT := Tryz.underlying136
 have PL := am_ KC
 have OC := am_ JU
 clear KC JU
 have HB := am_ (Below.refl w.heap.size w)
 have H : ((fI.f k lT a1).bind fun t105 => (if t105 < 0 then (some (-1)) else (some t105))) = some r := h
 clear h
 replace H := aBp H
 obtain ⟨t105, wN, H⟩ := H
 try dsimp only at H
 have A3 := am_ wN
 clear wN
 by_cases c4 : t105 < 0
 ·rw [if_pos c4] at H
  have iB := decide_eq_true c4; clear c4; obtain rfl := Option.some.inj H
  go_enter Tryz.func91, Tryz.ntmps91
  go_wp2_with (first | ((with_reducible refine aAc (N := 2) rfl ?_); refine bx_ 2 #[.slice xL lT.length xY, .int .i64 aD] 136 ?_; intro cGC hg w5 hbox hb; have YU := am_ (hbox); have cB9 := gw_ hg; replace HB := bs_ hb; clear hb hbox hg; obtain ⟨kW, kU, kY, lH⟩ := b2_ YU) | ((with_reducible refine aAa (f := 111) rfl ?_); refine aBh (some 8) Tryz.func111 #[.slice xL lT.length xY, .int .i64 a1] ?_; (with_reducible refine (fI.calls _ _ _ _ _ _ _ (cb_ PL HB) OC.out A3.out).mono ?_); rintro e w7 ⟨rfl, hb⟩; refine ⟨_, rfl, ?_⟩; replace YU := aAt YU hb; replace HB := bs_ hb; (try clear hb)))
  go_ret
  exact ⟨er_, bb_⟩
 ·rw [if_neg c4] at H
  have iB := decide_eq_false c4; clear c4; obtain rfl := Option.some.inj H
  go_enter Tryz.func91, Tryz.ntmps91
  go_wp2_with (first | ((with_reducible refine aAc (N := 2) rfl ?_); refine bx_ 2 #[.slice xL lT.length xY, .int .i64 aD] 136 ?_; intro cGC hg w8 hbox hb; have YU := am_ (hbox); have cB9 := gw_ hg; replace HB := bs_ hb; clear hb hbox hg; obtain ⟨mX, nC, nH, nG⟩ := b2_ YU) | ((with_reducible refine aAa (f := 111) rfl ?_); refine aBh (some 8) Tryz.func111 #[.slice xL lT.length xY, .int .i64 a1] ?_; (with_reducible refine (fI.calls _ _ _ _ _ _ _ (cb_ PL HB) OC.out A3.out).mono ?_); rintro e w10 ⟨rfl, hb⟩; refine ⟨_, rfl, ?_⟩; replace YU := aAt YU hb; replace HB := bs_ hb; (try clear hb)))
  go_ret
  exact ⟨er_, bb_⟩

def eG.l0 : Nat → List S136 → Int → Int → Option Int
 | 0, _, _, _ => none
 | k + 1, x0, x1, x5 => if x5 < (x0.length : Int) then (if 0 ≤ x5 then ((lD.f k ((nJ x0 x5).f0) ((nJ x0 x5).f1) x1).bind fun t107 => (if t107 < 0 then (some (-1)) else (eG.l0 k x0 t107 (wrap64 (x5 + 1))))) else (none)) else (some x1)
def eG.f (k : Nat) (l0 : List S136) (a1 : Int) : Option Int := if (wrap64 (a1 - (l0.length : Int))) < 0 then (some (-1)) else (eG.l0 k l0 (wrap64 (a1 - (l0.length : Int))) 0)
theorem eG.calls (k : Nat) (A0 : Option Addr) (c0 : Nat) (l0 : List S136) (a1 r : Int) (w : World) (hr0 : Kd.C aNa w A0 l0.length l0) (hc0 : l0.length ≤ c0) (h : eG.f k l0 a1 = some r) :
  Calls Tryz.prog 66 #[.slice A0 l0.length c0, .int .i64 a1] w fun e w' => e = .returned (.int .i64 r) ∧ Below w.heap.size w w' := by
 have bAT := Tryz.underlying136
 have jY := am_ hr0
 have oQ := am_ hc0
 clear hr0 hc0
 have HB := am_ (Below.refl w.heap.size w)
 have H : (if (wrap64 (a1 - (l0.length : Int))) < 0 then (some (-1)) else (eG.l0 k l0 (wrap64 (a1 - (l0.length : Int))) 0)) = some r := h
 clear h
 by_cases c3 : (wrap64 (a1 - (l0.length : Int))) < 0
 ·rw [if_pos c3] at H
  have fC := decide_eq_true c3; clear c3; obtain rfl := Option.some.inj H
  go_enter Tryz.func66, Tryz.ntmps66
  go_wp2
  go_ret
  exact ⟨er_, bb_⟩
 ·rw [if_neg c3] at H
  have fC := decide_eq_false c3; clear c3; have H' := am_ H; clear H
  go_enter Tryz.func66, Tryz.ntmps66
  go_wp2
  go_loopg [1, 5] k (fun kq v1 v5 w' => ∃ (nL : Int) (aC : Int), v1 = .int .i64 nL ∧ v5 = .int .i64 aC ∧ Aside0 (eG.l0 kq l0 nL aC = some r) ∧ Aside0 (kq ≤ k) ∧ Aside0 (Below w.heap.size w w'))
  case atStart => exact ⟨(wrap64 (a1 - (l0.length : Int))), (0), rs_, rs_, H', ⟨Nat.le_refl _⟩, ⟨bb_⟩⟩
  case round =>
   clear H'; (try clear p2); (try clear c3); (try clear fC); obtain ⟨nL, aC, rfl, rfl, HA, jK, HB⟩ := hrel
   cases gk with
   | zero => exact absurd HA.out (by simp [eG.l0])
   | succ k1 =>
    have H := HA.out; clear HA; simp only [eG.l0] at H
    by_cases c4 : aC < (l0.length : Int)
    ·rw [if_pos c4] at H
     have iB := decide_eq_true c4; clear c4
     by_cases c5 : 0 ≤ aC
     ·rw [if_pos c5] at H
      have pV := decide_eq_true c5; clear c5; replace H := aBp H; obtain ⟨t107, D6, H⟩ := H
      try dsimp only at H
      have A6 := am_ D6; clear D6; have gY := am_ H; clear H; (have bTM : 0 ≤ (aC : Int) := oa_); (have bUF : aC < (l0.length : Int) := oa_); obtain ⟨dA3, b4I, b5S, d6I, aOJ, aUA, aTA, aMM⟩ := aT6 jY.out aC bTM bUF; cases d6I; obtain ⟨aOJ, aUA⟩ := aSr HB aOJ aUA; have aP2 := am_ aMM; have aUK := am_ aTA; clear aMM aTA; replace bTM := eq_true bTM; replace bUF := eq_true bUF; have H := gY.out; clear gY
      by_cases c7 : t107 < 0
      ·rw [if_pos c7] at H
       have iV := decide_eq_true c7; clear c7; obtain rfl := Option.some.inj H
       go_wp2_with (first | ((with_reducible refine aAa (f := 91) rfl ?_); refine aBh (some 23) Tryz.func91 #[.agg #[.slice b4I ((nJ l0 aC).f0).length b5S, .int .i64 ((nJ l0 aC).f1)], .int .i64 nL] ?_; (with_reducible refine (lD.calls _ _ _ _ _ _ _ _ (cb_ aP2 HB) aUK.out A6.out).mono ?_); rintro e w8 ⟨rfl, hb⟩; refine ⟨_, rfl, ?_⟩; replace HB := bs_ hb; (try clear hb)))
       go_ret
       exact ⟨er_, bb_⟩
      ·rw [if_neg c7] at H
       have iV := decide_eq_false c7; clear c7; have H' := am_ H; clear H
       go_wp2_with (first | ((with_reducible refine aAa (f := 91) rfl ?_); refine aBh (some 23) Tryz.func91 #[.agg #[.slice b4I ((nJ l0 aC).f0).length b5S, .int .i64 ((nJ l0 aC).f1)], .int .i64 nL] ?_; (with_reducible refine (lD.calls _ _ _ _ _ _ _ _ (cb_ aP2 HB) aUK.out A6.out).mono ?_); rintro e w8 ⟨rfl, hb⟩; refine ⟨_, rfl, ?_⟩; replace HB := bs_ hb; (try clear hb)))
       go_roundg k1
       case measure => have := jK.out; omega
       case rel => exact ⟨(t107), (wrap64 (aC + 1)), rs_, rs_, H', ⟨by have := jK.out; omega⟩, ⟨bb_⟩⟩
     ·rw [if_neg c5] at H
      exact nn_ H
    ·rw [if_neg c4] at H
     have iB := decide_eq_false c4; clear c4; obtain rfl := Option.some.inj H
     go_wp2
     go_ret
     exact ⟨er_, bb_⟩

def kX.f (k : Nat) (aA : Int) (bS : List S136) (a1 : Int) : Option Int := (eG.f k bS a1).bind fun t109 => (if t109 < 0 then (some (-1)) else (some t109))
theorem kX.calls (k : Nat) (aA : Int) (lW : Option Addr) (lS : Nat) (bS : List S136) (a1 r : Int) (w : World) (qC : Kd.C aNa w lW bS.length bS) (sN : bS.length ≤ lS) (h : kX.f k aA bS a1 = some r) :
  Calls Tryz.prog 45 #[.agg #[.int .i64 aA, .slice lW bS.length lS], .int .i64 a1] w fun e w' => e = .returned (.int .i64 r) ∧ Below w.heap.size w w' := by
 have b38 := Tryz.underlying57
 have xG := am_ qC
 have JH := am_ sN
 clear qC sN
 have HB := am_ (Below.refl w.heap.size w)
 have H : ((eG.f k bS a1).bind fun t109 => (if t109 < 0 then (some (-1)) else (some t109))) = some r := h
 clear h
 replace H := aBp H
 obtain ⟨t109, wN, H⟩ := H
 try dsimp only at H
 have A3 := am_ wN
 clear wN
 by_cases c4 : t109 < 0
 ·rw [if_pos c4] at H
  have iB := decide_eq_true c4; clear c4; obtain rfl := Option.some.inj H
  go_enter Tryz.func45, Tryz.ntmps45
  go_wp2_with (first | ((with_reducible refine aAc (N := 2) rfl ?_); refine bx_ 2 #[.int .i64 aA, .slice lW bS.length lS] 57 ?_; intro cD0 hg w5 hbox hb; have ZW := am_ (hbox); have cBF := gw_ hg; replace HB := bs_ hb; clear hb hbox hg; obtain ⟨kW, kU, kY, lH⟩ := b2_ ZW) | ((with_reducible refine aAa (f := 66) rfl ?_); refine aBh (some 8) Tryz.func66 #[.slice lW bS.length lS, .int .i64 a1] ?_; (with_reducible refine (eG.calls _ _ _ _ _ _ _ (cb_ xG HB) JH.out A3.out).mono ?_); rintro e w7 ⟨rfl, hb⟩; refine ⟨_, rfl, ?_⟩; replace ZW := aAt ZW hb; replace HB := bs_ hb; (try clear hb)))
  go_ret
  exact ⟨er_, bb_⟩
 ·rw [if_neg c4] at H
  have iB := decide_eq_false c4; clear c4; obtain rfl := Option.some.inj H
  go_enter Tryz.func45, Tryz.ntmps45
  go_wp2_with (first | ((with_reducible refine aAc (N := 2) rfl ?_); refine bx_ 2 #[.int .i64 aA, .slice lW bS.length lS] 57 ?_; intro cD0 hg w8 hbox hb; have ZW := am_ (hbox); have cBF := gw_ hg; replace HB := bs_ hb; clear hb hbox hg; obtain ⟨mX, nC, nH, nG⟩ := b2_ ZW) | ((with_reducible refine aAa (f := 66) rfl ?_); refine aBh (some 8) Tryz.func66 #[.slice lW bS.length lS, .int .i64 a1] ?_; (with_reducible refine (eG.calls _ _ _ _ _ _ _ (cb_ xG HB) JH.out A3.out).mono ?_); rintro e w10 ⟨rfl, hb⟩; refine ⟨_, rfl, ?_⟩; replace ZW := aAt ZW hb; replace HB := bs_ hb; (try clear hb)))
  go_ret
  exact ⟨er_, bb_⟩

def oM.f (k : Nat) (aA : ByteArray) (aD : Int) (kK : List S136) (a1 : Int) : Option Int := if (wrap64 (a1 - (aA.size : Int))) < 0 then (some (-1)) else ((kX.f k aD kK (wrap64 (a1 - (aA.size : Int)))).bind fun aJL => (if aJL < 0 then (some (-1)) else (some aJL)))
theorem oM.calls (k : Nat) (aA : ByteArray) (aD : Int) (wQ : Option Addr) (wP : Nat) (kK : List S136) (a1 r : Int) (w : World) (JX : Kd.C aNa w wQ kK.length kK) (JE : kK.length ≤ wP) (h : oM.f k aA aD kK a1 = some r) :
  Calls Tryz.prog 18 #[.agg #[.string aA, .int .i64 aD, .slice wQ kK.length wP], .int .i64 a1] w fun e w' => e = .returned (.int .i64 r) ∧ Below w.heap.size w w' := by
 obtain ⟨bVY, b38⟩ := d5K
 have PS := am_ JX
 have NY := am_ JE
 clear JX JE
 have HB := am_ (Below.refl w.heap.size w)
 have H : (if (wrap64 (a1 - (aA.size : Int))) < 0 then (some (-1)) else ((kX.f k aD kK (wrap64 (a1 - (aA.size : Int)))).bind fun aJL => (if aJL < 0 then (some (-1)) else (some aJL)))) = some r := h
 clear h
 by_cases c3 : (wrap64 (a1 - (aA.size : Int))) < 0
 ·rw [if_pos c3] at H
  have fC := decide_eq_true c3; clear c3; obtain rfl := Option.some.inj H
  go_enter Tryz.func18, Tryz.ntmps18
  go_wp2_with (first | ((with_reducible refine aAc (N := 2) rfl ?_); refine bx_ 2 #[.string aA, .int .i64 aD, .slice wQ kK.length wP] 59 ?_; intro bR0 hg w4 hbox hb; have PH := am_ (hbox); have bOU := gw_ hg; replace HB := bs_ hb; clear hb hbox hg; obtain ⟨IG, JR, JN, IK, IW, IX⟩ := b3_ PH))
  go_ret
  exact ⟨er_, bb_⟩
 ·rw [if_neg c3] at H
  have fC := decide_eq_false c3; clear c3; replace H := aBp H; obtain ⟨aJL, D6, H⟩ := H
  try dsimp only at H
  have A6 := am_ D6; clear D6
  by_cases c7 : aJL < 0
  ·rw [if_pos c7] at H
   have iV := decide_eq_true c7; clear c7; obtain rfl := Option.some.inj H
   go_enter Tryz.func18, Tryz.ntmps18
   go_wp2_with (first | ((with_reducible refine aAc (N := 2) rfl ?_); refine bx_ 2 #[.string aA, .int .i64 aD, .slice wQ kK.length wP] 59 ?_; intro bR0 hg w8 hbox hb; have PH := am_ (hbox); have bOU := gw_ hg; replace HB := bs_ hb; clear hb hbox hg; obtain ⟨mX, nC, xB, nH, nG, x9⟩ := b3_ PH) | ((with_reducible refine aAa (f := 45) rfl ?_); refine aBh (some 15) Tryz.func45 #[.agg #[.int .i64 aD, .slice wQ kK.length wP], .int .i64 (wrap64 (a1 - (aA.size : Int)))] ?_; (with_reducible refine (kX.calls _ _ _ _ _ _ _ _ (cb_ PS HB) NY.out A6.out).mono ?_); rintro e w10 ⟨rfl, hb⟩; refine ⟨_, rfl, ?_⟩; replace PH := aAt PH hb; replace HB := bs_ hb; (try clear hb)))
   go_ret
   exact ⟨er_, bb_⟩
  ·rw [if_neg c7] at H
   have iV := decide_eq_false c7; clear c7; obtain rfl := Option.some.inj H
   go_enter Tryz.func18, Tryz.ntmps18
   go_wp2_with (first | ((with_reducible refine aAc (N := 2) rfl ?_); refine bx_ 2 #[.string aA, .int .i64 aD, .slice wQ kK.length wP] 59 ?_; intro bR0 hg jI hbox hb; have PH := am_ (hbox); have bOU := gw_ hg; replace HB := bs_ hb; clear hb hbox hg; obtain ⟨uI, tF, xS, uA, sG, xW⟩ := b3_ PH) | ((with_reducible refine aAa (f := 45) rfl ?_); refine aBh (some 15) Tryz.func45 #[.agg #[.int .i64 aD, .slice wQ kK.length wP], .int .i64 (wrap64 (a1 - (aA.size : Int)))] ?_; (with_reducible refine (kX.calls _ _ _ _ _ _ _ _ (cb_ PS HB) NY.out A6.out).mono ?_); rintro e ZO ⟨rfl, hb⟩; refine ⟨_, rfl, ?_⟩; replace PH := aAt PH hb; replace HB := bs_ hb; (try clear hb)))
   go_ret
   exact ⟨er_, bb_⟩

def gQ.l0 : Nat → List S59 → Int → Int → Option Int
 | 0, _, _, _ => none
 | k + 1, x0, x1, x5 => if x5 < (x0.length : Int) then (if 0 ≤ x5 then ((oM.f k ((mJ x0 x5).f0) ((mJ x0 x5).f1.f0) ((mJ x0 x5).f1.f1) x1).bind fun b53 => (if b53 < 0 then (some (-1)) else (gQ.l0 k x0 b53 (wrap64 (x5 + 1))))) else (none)) else (some x1)
def gQ.f (k : Nat) (l0 : List S59) (a1 : Int) : Option Int := if (wrap64 (a1 - (l0.length : Int))) < 0 then (some (-1)) else (gQ.l0 k l0 (wrap64 (a1 - (l0.length : Int))) 0)
theorem gQ.calls (k : Nat) (A0 : Option Addr) (c0 : Nat) (l0 : List S59) (a1 r : Int) (w : World) (hr0 : Kd.C k59 w A0 l0.length l0) (hc0 : l0.length ≤ c0) (h : gQ.f k l0 a1 = some r) :
  Calls Tryz.prog 5 #[.slice A0 l0.length c0, .int .i64 a1] w fun e w' => e = .returned (.int .i64 r) ∧ Below w.heap.size w w' := by
 have bVY := Tryz.underlying59
 have jY := am_ hr0
 have oQ := am_ hc0
 clear hr0 hc0
 have HB := am_ (Below.refl w.heap.size w)
 have H : (if (wrap64 (a1 - (l0.length : Int))) < 0 then (some (-1)) else (gQ.l0 k l0 (wrap64 (a1 - (l0.length : Int))) 0)) = some r := h
 clear h
 by_cases c3 : (wrap64 (a1 - (l0.length : Int))) < 0
 ·rw [if_pos c3] at H
  have fC := decide_eq_true c3; clear c3; obtain rfl := Option.some.inj H
  go_enter Tryz.func5, Tryz.ntmps5
  go_wp2
  go_ret
  exact ⟨er_, bb_⟩
 ·rw [if_neg c3] at H
  have fC := decide_eq_false c3; clear c3; have H' := am_ H; clear H
  go_enter Tryz.func5, Tryz.ntmps5
  go_wp2
  go_loopg [1, 5] k (fun kq v1 v5 w' => ∃ (nL : Int) (aC : Int), v1 = .int .i64 nL ∧ v5 = .int .i64 aC ∧ Aside0 (gQ.l0 kq l0 nL aC = some r) ∧ Aside0 (kq ≤ k) ∧ Aside0 (Below w.heap.size w w'))
  case atStart => exact ⟨(wrap64 (a1 - (l0.length : Int))), (0), rs_, rs_, H', ⟨Nat.le_refl _⟩, ⟨bb_⟩⟩
  case round =>
   clear H'; (try clear p2); (try clear c3); (try clear fC); obtain ⟨nL, aC, rfl, rfl, HA, jK, HB⟩ := hrel
   cases gk with
   | zero => exact absurd HA.out (by simp [gQ.l0])
   | succ k1 =>
    have H := HA.out; clear HA; simp only [gQ.l0] at H
    by_cases c4 : aC < (l0.length : Int)
    ·rw [if_pos c4] at H
     have iB := decide_eq_true c4; clear c4
     by_cases c5 : 0 ≤ aC
     ·rw [if_pos c5] at H
      have pV := decide_eq_true c5; clear c5; replace H := aBp H; obtain ⟨b53, D6, H⟩ := H
      try dsimp only at H
      have A6 := am_ D6; clear D6; have gY := am_ H; clear H; (have c1K : 0 ≤ (aC : Int) := oa_); (have c1S : aC < (l0.length : Int) := oa_); obtain ⟨dB8, b8M, b6M, d5L, aTN, aW1, aWQ, aV6, aVV⟩ := b2G jY.out aC c1K c1S; cases d5L; obtain ⟨aTN, aW1, aWQ⟩ := aNo HB aTN aW1 aWQ; have aLA := am_ aVV; have aTU := am_ aV6; clear aVV aV6; replace c1K := eq_true c1K; replace c1S := eq_true c1S; have H := gY.out; clear gY
      by_cases c7 : b53 < 0
      ·rw [if_pos c7] at H
       have iV := decide_eq_true c7; clear c7; obtain rfl := Option.some.inj H
       go_wp2_with (first | ((with_reducible refine aAa (f := 18) rfl ?_); refine aBh (some 23) Tryz.func18 #[.agg #[.string ((mJ l0 aC).f0), .int .i64 ((mJ l0 aC).f1.f0), .slice b8M ((mJ l0 aC).f1.f1).length b6M], .int .i64 nL] ?_; (with_reducible refine (oM.calls _ _ _ _ _ _ _ _ _ (cb_ aLA HB) aTU.out A6.out).mono ?_); rintro e w8 ⟨rfl, hb⟩; refine ⟨_, rfl, ?_⟩; replace HB := bs_ hb; (try clear hb)))
       go_ret
       exact ⟨er_, bb_⟩
      ·rw [if_neg c7] at H
       have iV := decide_eq_false c7; clear c7; have H' := am_ H; clear H
       go_wp2_with (first | ((with_reducible refine aAa (f := 18) rfl ?_); refine aBh (some 23) Tryz.func18 #[.agg #[.string ((mJ l0 aC).f0), .int .i64 ((mJ l0 aC).f1.f0), .slice b8M ((mJ l0 aC).f1.f1).length b6M], .int .i64 nL] ?_; (with_reducible refine (oM.calls _ _ _ _ _ _ _ _ _ (cb_ aLA HB) aTU.out A6.out).mono ?_); rintro e w8 ⟨rfl, hb⟩; refine ⟨_, rfl, ?_⟩; replace HB := bs_ hb; (try clear hb)))
       go_roundg k1
       case measure => have := jK.out; omega
       case rel => exact ⟨(b53), (wrap64 (aC + 1)), rs_, rs_, H', ⟨by have := jK.out; omega⟩, ⟨bb_⟩⟩
     ·rw [if_neg c5] at H
      exact nn_ H
    ·rw [if_neg c4] at H
     have iB := decide_eq_false c4; clear c4; obtain rfl := Option.some.inj H
     go_wp2
     go_ret
     exact ⟨er_, bb_⟩

def mD.f (aA aD : Int) (aH : ByteArray) : Option (Int × Int × ByteArray) := some (aA, aD, aH)
theorem mD.calls (aA aD : Int) (aH : ByteArray) (r1 r2 : Int) (r3 : ByteArray) (w : World) (h : mD.f aA aD aH = some (r1, r2, r3)) :
  Calls Tryz.prog 52 #[.agg #[.int .i64 aA, .int .i64 aD, .string aH]] w fun e w' => e = .returned (.agg #[.int .i64 r1, .int .i64 r2, .string r3]) ∧ Below w.heap.size w w' := by
 obtain ⟨b68, QU⟩ := cKB
 have HB := am_ (Below.refl w.heap.size w)
 have H : (some (aA, aD, aH)) = some (r1, r2, r3) := h
 clear h
 simp only [Option.some.injEq, Prod.mk.injEq] at H
 obtain ⟨rfl, rfl, rfl⟩ := H
 go_enter Tryz.func52, Tryz.ntmps52
 go_wp2_with (first | ((with_reducible refine aAc (N := 1) rfl ?_); refine bx_ 1 #[.int .i64 aA, .int .i64 aD, .string aH] 24 ?_; intro d90 hg w2 hbox hb; have OB := am_ (hbox); have d7G := gw_ hg; replace HB := bs_ hb; clear hb hbox hg) | ((with_reducible refine aAc (N := 2) rfl ?_); refine bx_ 2 #[.int .i64 0, .int .i64 0, .string (⟨#[]⟩ : ByteArray)] 36 ?_; intro cC5 hg w3 hbox hb; have aHW := am_ (hbox); have dAB := gw_ hg; have aYN := nl_ hg OB; have b08 := ng_ hg OB; replace OB := aAt OB hb; replace HB := bs_ hb; clear hb hbox hg) | ((with_reducible refine aAc (N := 3) rfl ?_); refine bx_ 3 #[.int .i64 0, .int .i64 0, .string (⟨#[]⟩ : ByteArray)] 36 ?_; intro dAK hg w4 hbox hb; have c3W := am_ (hbox); have d7O := gw_ hg; have aZM := nl_ hg OB; have aZN := ng_ hg OB; have aY9 := nl_ hg aHW; have aYF := ng_ hg aHW; replace OB := aAt OB hb; replace aHW := aAt aHW hb; replace HB := bs_ hb; clear hb hbox hg; have dC3 := aYN.out; have dCV := b08.out; have bIT := aZM.out; have bBM := aZN.out; obtain ⟨uN, uU, FR, uY, uP, FJ⟩ := b3_ OB; have aJF := aYF.out; have aJ2 := aY9.out; obtain ⟨mX, nC, xB, nH, nG, x9⟩ := b3_ c3W; obtain ⟨lN, lL, nI, lM, lJ, nD⟩ := b3_ aHW))
 refine bodyPost_ret (results_cell_row rfl _ _ cC5 36 #[.int .i64 aA, .int .i64 aD, .string aH] (0, 0) _ rfl bw_ Tryz.underlying36 rfl (by kernel_rfl)) rfl ?_
 exact ⟨er_, bb_⟩

def fD.l0 : Nat → List S24 → List S36 → Int → Option ((List S36))
 | 0, _, _, _ => none
 | k + 1, x0, x3, x4 => if x4 < (x0.length : Int) then (if 0 ≤ x4 then ((mD.f ((nQ x0 x4).f0) ((nQ x0 x4).f1) ((nQ x0 x4).f2)).bind fun b8B => (if x4 < (x3.length : Int) then (fD.l0 k x0 (x3.set (x4 : Int).toNat (⟨b8B.1, b8B.2.1, b8B.2.2⟩ : S36)) (wrap64 (x4 + 1))) else (none))) else (none)) else (some x3)
def fD.f (k : Nat) (l0 : List S24) : Option ((List S36)) := if 0 ≤ (l0.length : Int) then (if ((l0.length : Int) : Int).toNat ≤ 8796093022208 then (fD.l0 k l0 (List.replicate ((l0.length : Int) : Int).toNat z36) 0) else (none)) else (none)
theorem fD.calls (k : Nat) (A0 : Option Addr) (c0 : Nat) (l0 : List S24) (r : List S36) (w : World) (hr0 : Kd.C k24 w A0 l0.length l0) (hc0 : l0.length ≤ c0) (h : fD.f k l0 = some r) :
  Calls Tryz.prog 114 #[.slice A0 l0.length c0] w fun e w' => ∃ I7 : Value, e = .returned (I7) ∧ Kd.R ER 36 w' w.heap.size (fun _ => True) I7 r ∧ Below w.heap.size w w' := by
 obtain ⟨b68, QU⟩ := cKB
 have jY := am_ hr0
 have oQ := am_ hc0
 clear hr0 hc0
 have HB := am_ (Below.refl w.heap.size w)
 have H : (if 0 ≤ (l0.length : Int) then (if ((l0.length : Int) : Int).toNat ≤ 8796093022208 then (fD.l0 k l0 (List.replicate ((l0.length : Int) : Int).toNat z36) 0) else (none)) else (none)) = some r := h
 clear h
 by_cases c2 : 0 ≤ (l0.length : Int)
 ·rw [if_pos c2] at H
  have qD := eq_true c2; have JA := decide_eq_true c2; clear c2
  by_cases c3 : ((l0.length : Int) : Int).toNat ≤ 8796093022208
  ·rw [if_pos c3] at H
   have fC := eq_true c3; have lI := decide_eq_true c3; clear c3; obtain ⟨cE0, aEO⟩ : ∃ y_ : List S36, y_ = (List.replicate ((l0.length : Int) : Int).toNat z36) := ⟨_, rfl⟩; (replace H : (fD.l0 k l0 cE0 0) = some r := by first | (rw [aEO]; with_reducible exact H) | (have jC := (Option.bind_some _ _).symm.trans H; rw [aEO]; with_reducible exact jC) | (have jC := (Option.bind_some _ _).symm.trans H; with_reducible exact jC) | with_reducible exact H | (rw [aEO]; exact H) | exact H); have bQD := am_ aEO; clear aEO; have H' := am_ H; clear H
   go_enter Tryz.func114, Tryz.ntmps114
   go_wp2_with (first | ((with_reducible refine aAc (N := 7) rfl ?_); refine Kd.aKq ER _ 36 rfl (N := 7) rfl 124 _ _ rfl (l0.length : Int) rfl rfl Tryz.underlying124 (.agg #[(.int .i64 0), (.int .i64 0), (.string ⟨#[]⟩)]) 32 bTU rfl (by decide) (by omega) z36 (ok := fun _ => True) (okp := fun _ => True) (a6R _ _ _ z36 ) (fun _ hk => hk) trivial (oa_) (Nat.le_trans (Nat.mul_le_mul_right _ (oa_ : (l0.length : Int).toNat ≤ 8796093022208)) (by omega)) (Below.refl _ _) (Nat.le_refl _) ?_; intro d61 w4 EY hb DZ j4; clear DZ j4; (first | rw [← bQD.out] at EY | (simp only [Int.reduceToNat] at EY; rw [← bQD.out] at EY)); have c8F := am_ (Kd.aBc EY (aAj bb_)); replace HB := bs_ hb; clear hb EY))
   go_loopg [4] k (fun kq v4 w' => ∃ (bA : List S36) (aT : Int), v4 = .int .i64 aT ∧ Aside0 (fD.l0 kq l0 bA aT = some r) ∧ Aside0 (kq ≤ k) ∧ Aside0 (Kd.R ER 36 w' w.heap.size (fun _ => True) d61 bA) ∧ Aside0 (Below w.heap.size w w'))
   case atStart => exact ⟨(cE0), (0), rs_, H', ⟨Nat.le_refl _⟩, ⟨by (with_reducible repeat (first | apply Kd.aBf | apply Kd.aBg | apply Kd.aBi)); exact c8F.out⟩, ⟨bb_⟩⟩
   case round =>
    clear H'; (try clear c1); (try clear c2); (try clear qD); (try clear JA); (try clear p2); (try clear c3); (try clear fC); (try clear lI); obtain ⟨bA, aT, rfl, HA, jK, dS, HB⟩ := hrel
    cases gk with
    | zero => exact absurd HA.out (by simp [fD.l0])
    | succ k1 =>
     have H := HA.out; clear HA; simp only [fD.l0] at H
     by_cases c6 : aT < (l0.length : Int)
     ·rw [if_pos c6] at H
      have mY := decide_eq_true c6; clear c6
      by_cases c7 : 0 ≤ aT
      ·rw [if_pos c7] at H
       have iV := decide_eq_true c7; clear c7; replace H := aBp H; obtain ⟨⟨b4O, b1Z, b9I⟩, RY, H⟩ := H
       try dsimp only at H
       have A8 := am_ RY; clear RY
       by_cases c9 : aT < (bA.length : Int)
       ·rw [if_pos c9] at H
        have xC := decide_eq_true c9; clear c9; obtain ⟨c0R, aFZ⟩ : ∃ y_ : List S36, y_ = (bA.set (aT : Int).toNat (⟨b4O, b1Z, b9I⟩ : S36)) := ⟨_, rfl⟩; (replace H : (fD.l0 k1 l0 c0R (wrap64 (aT + 1))) = some r := by first | (rw [aFZ]; with_reducible exact H) | (have jC := (Option.bind_some _ _).symm.trans H; rw [aFZ]; with_reducible exact jC) | (have jC := (Option.bind_some _ _).symm.trans H; with_reducible exact jC) | with_reducible exact H | (rw [aFZ]; exact H) | exact H); have cMH := am_ aFZ; clear aFZ; have H' := am_ H; clear H; (have bRU : 0 ≤ (aT : Int) := oa_); (have c0I : aT < (l0.length : Int) := oa_); obtain ⟨d9I, e120, aY0, aKH, aQ3⟩ := b2M jY.out aT bRU c0I; cases e120; obtain ⟨aY0, aKH, aQ3⟩ := aNo HB aY0 aKH aQ3; replace bRU := eq_true bRU; replace c0I := eq_true c0I
        go_wp2_with (first | ((with_reducible refine aAa (f := 52) rfl ?_); refine aBh (some 20) Tryz.func52 #[.agg #[.int .i64 ((nQ l0 aT).f0), .int .i64 ((nQ l0 aT).f1), .string ((nQ l0 aT).f2)]] ?_; (with_reducible refine (mD.calls _ _ _ _ _ _ _ A8.out).mono ?_); rintro e jI ⟨rfl, hb⟩; refine ⟨_, rfl, ?_⟩; replace dS := am_ (Kd.aAs (rk_ dS.out) hb); replace HB := bs_ hb; (try clear hb); have ZQ : 0 ≤ (aT : Int) := oa_; have ZC : (aT : Int) < ((bA.length : Int) : Int) := oa_; obtain ⟨cO, DY, DX, JK, Y4, b5P, JC⟩ := Kd.aIf dS.out (by omega); (first | cases DX | (injection DX with rW SI TD; (first | subst rW | (injection rW with rW; subst rW)); subst TD; clear SI)); have lC := am_ JK; have b2H := am_ JC; clear JK Y4 JC; obtain ⟨b52, J3, IE, gP, gM⟩ := Kd.aFv dS.out z36 (aT : Int) ZQ ZC; obtain rfl := SS IE; have YJ : jI.cell? ⟨cO, (aT : Int).toNat * 3, none⟩ = some (.int .i64 ((gT bA aT).f0)) := gP 0 _ rfl; have Y2 : jI.cell? ⟨cO, (aT : Int).toNat * 3 + 1, none⟩ = some (.int .i64 ((gT bA aT).f1)) := gP 1 _ rfl; have a6P : jI.cell? ⟨cO, (aT : Int).toNat * 3 + 2, none⟩ = some (.string ((gT bA aT).f2)) := gP 2 _ rfl; have XT : jI.frozen? ⟨cO, (aT : Int).toNat * 3, none⟩ = false := gM 0; have YN : jI.frozen? ⟨cO, (aT : Int).toNat * 3 + 1, none⟩ = false := gM 1; have aAU : jI.frozen? ⟨cO, (aT : Int).toNat * 3 + 2, none⟩ = false := gM 2; clear J3 gP gM IE; replace ZQ := eq_true ZQ; replace ZC := eq_true ZC; have cLH := am_ (show Kd.R ER 36 jI w.heap.size (fun _ => True) (.slice (some ⟨cO, 0, none⟩) bA.length DY) bA from (rk_ dS.out)); obtain ⟨dCB, bQ5, cMC, aIJ, aP9⟩ := Kd.aFv cLH.out z36 (aT : Int) (oa_) (by have h_ : (aT : Int) < ((bA.length : Int) : Int) := oa_; first | exact h_ | (have e_ := (Kd.aAr dS.out).1; omega) | simpa using h_); obtain rfl := SS cMC; have bY2 := Kd.aPx cLH.out (aT : Int) (oa_) (by have h_ : (aT : Int) < ((bA.length : Int) : Int) := oa_; first | exact h_ | (have e_ := (Kd.aAr dS.out).1; omega) | simpa using h_) (seg := [.int .i64 b4O, .int .i64 b1Z, .string b9I]) (j := 0) bQ5 aIJ (show 3 ≤ 3 from by decide) (x' := (⟨b4O, b1Z, b9I⟩ : S36)) (a6R _ _ _ (⟨b4O, b1Z, b9I⟩ : S36) ) (fun _ hk => hk); have bWD := aIJ 0 _ rfl; have bRQ := aP9 0; have bT2 := aIJ 1 _ rfl; have bT7 := aP9 1; have bWR := aIJ 2 _ rfl; have bZ9 := aP9 2; (try simp only [show (ER).sz = 3 from rfl, Nat.mul_one, Nat.add_zero] at bWD bRQ bT2 bT7 bWR bZ9); clear bQ5 aIJ aP9 cMC) | ((with_reducible refine aDn (t := 36) (p := 21) rfl ?_); refine aCy (t := 36) (p := 21) (v := ?d5P) (w1 := (((jI.setCell ⟨cO, (aT : Int).toNat * 3, none⟩ (.int .i64 b4O)).setCell ⟨cO, (aT : Int).toNat * 3 + 1, none⟩ (.int .i64 b1Z)).setCell ⟨cO, (aT : Int).toNat * 3 + 2, none⟩ (.string b9I))) ?hg ?ho ?hn ?hr ?_; (case ho => rfl); (case hg => rfl); (case hn => rfl); (case hr => first | (go_simp; done) | (go_simp; rfl)); intro ZO hw; have hg : jI.grownBy ZO (some cO) := (by rw [hw]; exact bY2.2); have ZG : Kd.R ER 36 ZO w.heap.size (fun _ => True) (.slice (some ⟨cO, 0, none⟩) bA.length DY) c0R := (by rw [hw, cMH.out]; exact bY2.1); clear bY2; replace dS := am_ (ZG); replace HB := am_ ((by rw [hw]; exact aAk (aAk (aAk (HB.out) lC.out) lC.out) lC.out : Below w.heap.size w ZO)); clear hg hw ZG))
        go_roundg k1
        case measure => have := jK.out; omega
        case rel => exact ⟨(c0R), (wrap64 (aT + 1)), rs_, H', ⟨by have := jK.out; omega⟩, ⟨by (with_reducible repeat (first | apply Kd.aBf | apply Kd.aBg | apply Kd.aBi)); exact dS.out⟩, ⟨bb_⟩⟩
       ·rw [if_neg c9] at H
        exact nn_ H
      ·rw [if_neg c7] at H
       exact nn_ H
     ·rw [if_neg c6] at H
      have mY := decide_eq_false c6; clear c6; obtain rfl := Option.some.inj H
      go_wp2
      go_ret
      (exact ⟨_, rr_, by (with_reducible repeat (first | apply Kd.aBf | apply Kd.aBg | apply Kd.aBi)); exact dS.out, by repeat (first | (with_reducible first | exact HB.out | apply aAi | apply aAo | apply aAm) | exact HB.out)⟩)
  ·rw [if_neg c3] at H
   exact nn_ H
 ·rw [if_neg c2] at H
  exact nn_ H

def mQ.f (k : Nat) (lT : List S24) (aD : Int) : Option ((List S36) × Int) := (fD.f k lT).bind fun b8K => (some (b8K, aD))
theorem mQ.calls (k : Nat) (xL : Option Addr) (xY : Nat) (lT : List S24) (aD : Int) (r1 : List S36) (r2 : Int) (w : World) (KC : Kd.C k24 w xL lT.length lT) (JU : lT.length ≤ xY) (h : mQ.f k lT aD = some (r1, r2)) :
  Calls Tryz.prog 94 #[.agg #[.slice xL lT.length xY, .int .i64 aD]] w fun e w' => ∃ I7 : Value, e = .returned (.agg #[I7, .int .i64 r2]) ∧ Kd.R ER 36 w' w.heap.size (fun _ => True) I7 r1 ∧ Below w.heap.size w w' := by
 obtain ⟨bAT, a1V⟩ := cA8
 have PL := am_ KC
 have OC := am_ JU
 clear KC JU
 have HB := am_ (Below.refl w.heap.size w)
 have H : ((fD.f k lT).bind fun b8K => (some (b8K, aD))) = some (r1, r2) := h
 clear h
 replace H := aBp H
 obtain ⟨b8K, BB, H⟩ := H
 try dsimp only at H
 have A2 := am_ BB
 clear BB
 simp only [Option.some.injEq, Prod.mk.injEq] at H
 obtain ⟨rfl, rfl⟩ := H
 go_enter Tryz.func94, Tryz.ntmps94
 go_wp2_with (first | ((with_reducible refine aAc (N := 1) rfl ?_); refine bx_ 1 #[.slice xL lT.length xY, .int .i64 aD] 136 ?_; intro dA0 hg w3 hbox hb; have GX := am_ (hbox); have cJP := gw_ hg; replace HB := bs_ hb; clear hb hbox hg) | ((with_reducible refine aAc (N := 2) rfl ?_); refine bx_ 2 #[.slice none 0 0, .int .i64 0] 126 ?_; intro cI8 hg w4 hbox hb; have U7 := am_ (hbox); have c7O := gw_ hg; have aZU := nl_ hg GX; have aZO := ng_ hg GX; replace GX := aAt GX hb; replace HB := bs_ hb; clear hb hbox hg) | ((with_reducible refine aAc (N := 3) rfl ?_); refine bx_ 3 #[.slice none 0 0, .int .i64 0] 126 ?_; intro d85 hg w5 hbox hb; have aWX := am_ (hbox); have cHI := gw_ hg; have aZE := nl_ hg GX; have aZ4 := ng_ hg GX; have aZZ := nl_ hg U7; have aYU := ng_ hg U7; replace GX := aAt GX hb; replace U7 := aAt U7 hb; replace HB := bs_ hb; clear hb hbox hg; have bIT := aZU.out; have bBM := aZO.out; have bKU := aZE.out; have bJT := aZ4.out; obtain ⟨qI, qG, qF, qH⟩ := b2_ GX) | ((with_reducible refine aAa (f := 114) rfl ?_); refine aBh (some 6) Tryz.func114 #[.slice xL lT.length xY] ?_; (with_reducible refine (fD.calls _ _ _ _ _ _ (cb_ PL HB) OC.out A2.out).mono ?_); rintro e w9 ⟨dCD, rfl, ho0, hb⟩; refine ⟨_, rfl, ?_⟩; have bPN := am_ (Kd.aBc ho0 (aAj bb_)); replace GX := aAt GX hb; replace U7 := aAt U7 hb; replace aWX := aAt aWX hb; replace HB := bs_ hb; clear hb ho0; obtain ⟨bVS, DY, DX⟩ := Kd.aBj bPN.out; subst DX; have cMN := aYU.out; have cEV := aZZ.out; obtain ⟨uI, tF, uA, sG⟩ := b2_ aWX; obtain ⟨MU, KT, LB, KJ⟩ := b2_ GX; obtain ⟨nZ, nV, oG, nW⟩ := b2_ U7))
 refine bodyPost_ret (results_cell_row rfl _ _ cI8 126 #[.slice bVS b8K.length DY, .int .i64 aD] (0, 0) _ rfl bw_ Tryz.underlying126 rfl (by kernel_rfl)) rfl ?_
 exact ⟨_, rr_, by (with_reducible repeat (first | apply Kd.aBf | apply Kd.aBg | apply Kd.aBi)); exact Kd.aAw (aSy (aSy (Kd.aCa (Kd.aCa bPN.out aWX.out (by decide)) U7.out (by decide)) (fun _ hk => hk.1.2)) (fun _ hk => hk.2)) (fun _ hk => trivial), by repeat (first | (with_reducible first | exact HB.out | apply aAi | apply aAo | apply aAm | refine aAk ?_ cJP.out | refine aAk ?_ c7O.out | refine aAk ?_ cHI.out) | exact HB.out)⟩
def dZ.l0 : Nat → List S136 → List S126 → Int → Option ((List S126))
 | 0, _, _, _ => none
 | k + 1, x0, x3, x4 => if x4 < (x0.length : Int) then (if 0 ≤ x4 then ((mQ.f k ((nJ x0 x4).f0) ((nJ x0 x4).f1)).bind fun bQO => (if x4 < (x3.length : Int) then (dZ.l0 k x0 (x3.set (x4 : Int).toNat (⟨bQO.1, bQO.2⟩ : S126)) (wrap64 (x4 + 1))) else (none))) else (none)) else (some x3)
def dZ.f (k : Nat) (l0 : List S136) : Option ((List S126)) := if 0 ≤ (l0.length : Int) then (if ((l0.length : Int) : Int).toNat ≤ 8796093022208 then (dZ.l0 k l0 (List.replicate ((l0.length : Int) : Int).toNat aEs) 0) else (none)) else (none)
theorem dZ.calls (k : Nat) (A0 : Option Addr) (c0 : Nat) (l0 : List S136) (r : List S126) (w : World) (hr0 : Kd.C aNa w A0 l0.length l0) (hc0 : l0.length ≤ c0) (h : dZ.f k l0 = some r) :
  Calls Tryz.prog 71 #[.slice A0 l0.length c0] w fun e w' => ∃ I7 : Value, e = .returned (I7) ∧ Kd.S jU 126 w' w.heap.size (fun _ => True) I7 r ∧ Below w.heap.size w w' := by
 obtain ⟨bAT, a1V⟩ := cA8
 have jY := am_ hr0
 have oQ := am_ hc0
 clear hr0 hc0
 have HB := am_ (Below.refl w.heap.size w)
 have H : (if 0 ≤ (l0.length : Int) then (if ((l0.length : Int) : Int).toNat ≤ 8796093022208 then (dZ.l0 k l0 (List.replicate ((l0.length : Int) : Int).toNat aEs) 0) else (none)) else (none)) = some r := h
 clear h
 by_cases c2 : 0 ≤ (l0.length : Int)
 ·rw [if_pos c2] at H
  have qD := eq_true c2; have JA := decide_eq_true c2; clear c2
  by_cases c3 : ((l0.length : Int) : Int).toNat ≤ 8796093022208
  ·rw [if_pos c3] at H
   have fC := eq_true c3; have lI := decide_eq_true c3; clear c3; obtain ⟨cLW, aDC⟩ : ∃ y_ : List S126, y_ = (List.replicate ((l0.length : Int) : Int).toNat aEs) := ⟨_, rfl⟩; (replace H : (dZ.l0 k l0 cLW 0) = some r := by first | (rw [aDC]; with_reducible exact H) | (have jC := (Option.bind_some _ _).symm.trans H; rw [aDC]; with_reducible exact jC) | (have jC := (Option.bind_some _ _).symm.trans H; with_reducible exact jC) | with_reducible exact H | (rw [aDC]; exact H) | exact H); have bR9 := am_ aDC; clear aDC; have H' := am_ H; clear H
   go_enter Tryz.func71, Tryz.ntmps71
   go_wp2_with (first | ((with_reducible refine aAc (N := 7) rfl ?_); refine Kd.aWw jU _ 126 rfl (N := 7) rfl 64 _ _ rfl (l0.length : Int) rfl rfl Tryz.underlying64 (.agg #[(.slice none 0 0), (.int .i64 0)]) 32 bBT rfl (by decide) (by omega) aEs (ok := fun _ => True) (okp := fun _ => True) (aG9 _ _ _ aEs (Kd.aFr _ _ _ _ _)) (fun _ hk => hk) trivial (oa_) (Nat.le_trans (Nat.mul_le_mul_right _ (oa_ : (l0.length : Int).toNat ≤ 8796093022208)) (by omega)) (Below.refl _ _) (Nat.le_refl _) ?_; intro d5B w4 EY hb DZ j4; clear DZ j4; (first | rw [← bR9.out] at EY | (simp only [Int.reduceToNat] at EY; rw [← bR9.out] at EY)); have cJ4 := am_ (Kd.aHs EY (aAj bb_)); replace HB := bs_ hb; clear hb EY))
   go_loopg [4] k (fun kq v4 w' => ∃ (bA : List S126) (aT : Int), v4 = .int .i64 aT ∧ Aside0 (dZ.l0 kq l0 bA aT = some r) ∧ Aside0 (kq ≤ k) ∧ Aside0 (Kd.S jU 126 w' w.heap.size (fun _ => True) d5B bA) ∧ Aside0 (Below w.heap.size w w'))
   case atStart => exact ⟨(cLW), (0), rs_, H', ⟨Nat.le_refl _⟩, ⟨by (with_reducible repeat (first | apply Kd.aGt | apply Kd.aGu | apply Kd.aJl)); exact cJ4.out⟩, ⟨bb_⟩⟩
   case round =>
    clear H'; (try clear c2); (try clear qD); (try clear JA); (try clear p2); (try clear c3); (try clear fC); (try clear lI); obtain ⟨bA, aT, rfl, HA, jK, dS, HB⟩ := hrel
    cases gk with
    | zero => exact absurd HA.out (by simp [dZ.l0])
    | succ k1 =>
     have H := HA.out; clear HA; simp only [dZ.l0] at H
     by_cases c6 : aT < (l0.length : Int)
     ·rw [if_pos c6] at H
      have mY := decide_eq_true c6; clear c6
      by_cases c7 : 0 ≤ aT
      ·rw [if_pos c7] at H
       have iV := decide_eq_true c7; clear c7; replace H := aBp H; obtain ⟨⟨aJU, t138⟩, RY, H⟩ := H
       try dsimp only at H
       have A8 := am_ RY; clear RY
       by_cases c9 : aT < (bA.length : Int)
       ·rw [if_pos c9] at H
        have xC := decide_eq_true c9; clear c9; obtain ⟨c08, aCB⟩ : ∃ y_ : List S126, y_ = (bA.set (aT : Int).toNat (⟨aJU, t138⟩ : S126)) := ⟨_, rfl⟩; (replace H : (dZ.l0 k1 l0 c08 (wrap64 (aT + 1))) = some r := by first | (rw [aCB]; with_reducible exact H) | (have jC := (Option.bind_some _ _).symm.trans H; rw [aCB]; with_reducible exact jC) | (have jC := (Option.bind_some _ _).symm.trans H; with_reducible exact jC) | with_reducible exact H | (rw [aCB]; exact H) | exact H); have c7N := am_ aCB; clear aCB; have H' := am_ H; clear H; (have bSG : 0 ≤ (aT : Int) := oa_); (have bW0 : aT < (l0.length : Int) := oa_); obtain ⟨d9N, bW9, bU8, d3K, aMI, aS1, aMA, aKA⟩ := aT6 jY.out aT bSG bW0; cases d3K; obtain ⟨aMI, aS1⟩ := aSr HB aMI aS1; have bKN := am_ aKA; have bL3 := am_ aMA; clear aKA aMA; replace bSG := eq_true bSG; replace bW0 := eq_true bW0
        go_wp2_with (first | ((with_reducible refine aAa (f := 94) rfl ?_); refine aBh (some 20) Tryz.func94 #[.agg #[.slice bW9 ((nJ l0 aT).f0).length bU8, .int .i64 ((nJ l0 aT).f1)]] ?_; (with_reducible refine (mQ.calls _ _ _ _ _ _ _ _ (cb_ bKN HB) bL3.out A8.out).mono ?_); rintro e jI ⟨dDK, rfl, ho0, hb⟩; refine ⟨_, rfl, ?_⟩; have aUO := am_ (Kd.aBc ho0 (aAj bb_)); replace dS := am_ (Kd.aTg (sk_ dS.out) (Kd.aCn ho0) hb); replace HB := bs_ hb; clear hb ho0; have ZQ : 0 ≤ (aT : Int) := oa_; have ZC : (aT : Int) < ((bA.length : Int) : Int) := oa_; obtain ⟨cO, DY, DX, JK, Y4, b5P, JC⟩ := Kd.aWm dS.out (by omega); (first | cases DX | (injection DX with rW SI TD; (first | subst rW | (injection rW with rW; subst rW)); subst TD; clear SI)); have lC := am_ JK; have b2H := am_ JC; clear JK Y4 JC; obtain ⟨_, b52, J3, IE, gP, gM, _, _⟩ := Kd.aUn dS.out aEs (aT : Int) ZQ ZC; obtain ⟨bXX, rfl, d74⟩ := XW IE; have YJ : jI.cell? ⟨cO, (aT : Int).toNat * 2, none⟩ = some (bXX) := gP 0 _ rfl; have Y2 : jI.cell? ⟨cO, (aT : Int).toNat * 2 + 1, none⟩ = some (.int .i64 ((bI bA aT).f1)) := gP 1 _ rfl; have XT : jI.frozen? ⟨cO, (aT : Int).toNat * 2, none⟩ = false := gM 0; have YN : jI.frozen? ⟨cO, (aT : Int).toNat * 2 + 1, none⟩ = false := gM 1; clear J3 gP gM IE; replace ZQ := eq_true ZQ; replace ZC := eq_true ZC; obtain ⟨qZ, qN, H9⟩ := Kd.aBj aUO.out; subst H9; have n_ := am_ (Kd.aKm (ok' := (fun k_ => some k_ ≠ (.slice qZ aJU.length qN : Value).ownBlock)) dS.out (fun k_ hk => hk.2)); clear dS; have dS := n_; clear n_; have aIT := am_ (show Kd.S jU 126 jI w.heap.size (fun k_ => ((fun _ => True)) k_ ∧ ¬ ((fun k_ => some k_ = (.slice qZ aJU.length qN : Value).ownBlock)) k_) (.slice (some ⟨cO, 0, none⟩) bA.length DY) bA from (sk_ (Kd.aKm dS.out (fun k_ hk => ⟨trivial, fun e_ => hk e_⟩)))); obtain ⟨d9M, cK2, ZE, aEV, uB, wZ, c0N, cH3⟩ := Kd.aUn aIT.out aEs (aT : Int) (oa_) (by have h_ : (aT : Int) < ((bA.length : Int) : Int) := oa_; first | exact h_ | (have e_ := (Kd.aOp dS.out).1; omega) | simpa using h_); obtain ⟨d5O, rfl, d4G⟩ := XW aEV; have ZP := Kd.aYr cH3 (oa_) (by have h_ : (aT : Int) < ((bA.length : Int) : Int) := oa_; first | exact h_ | (have e_ := (Kd.aOp dS.out).1; omega) | simpa using h_) (seg := [.slice qZ aJU.length qN, .int .i64 t138]) (j := 0) (show 2 ≤ 2 from by decide) (x' := (⟨aJU, t138⟩ : S126)) (aG9 _ _ _ (⟨aJU, t138⟩ : S126) (Kd.aAw (Kd.aVc rfl (Kd.aAw (ok' := fun k_ => ((fun _ => True)) k_ ∧ k_ ≠ cO) (Kd.aEh (aUO.out) (Kd.aSg dS.out) (by decide)) (fun k_ hk => ⟨trivial, fun e_ => (hk.2) (by rw [e_]; rfl)⟩))) (fun _ h_ => Or.inr (h_)))) (fun _ hk => hk) (fun k_ hk_ => ((Kd.aAw (ok' := fun k_ => ((fun _ => True)) k_ ∧ k_ ≠ cO) (Kd.aEh (aUO.out) (Kd.aSg dS.out) (by decide)) (fun k_ hk => ⟨trivial, fun e_ => (hk.2) (by rw [e_]; rfl)⟩))).1 k_ hk_.symm); have YO := uB 0 _ rfl; have ZV := wZ 0; have YL := uB 1 _ rfl; have ZB := wZ 1; (try simp only [show (jU).sz = 2 from rfl, Nat.mul_one, Nat.add_zero] at YO ZV YL ZB); clear ZE uB wZ aEV c0N cH3) | ((with_reducible refine aDn (t := 126) (p := 21) rfl ?_); refine aCy (t := 126) (p := 21) (v := ?bAS) (w1 := ((jI.setCell ⟨cO, (aT : Int).toNat * 2, none⟩ (.slice qZ aJU.length qN)).setCell ⟨cO, (aT : Int).toNat * 2 + 1, none⟩ (.int .i64 t138))) ?hg ?ho ?hn ?hr ?_; (case ho => rfl); (case hg => rfl); (case hn => rfl); (case hr => first | (go_simp; done) | (go_simp; rfl)); intro w14 hw; have hg : jI.grownBy w14 (some cO) := (by rw [hw]; exact ZP.2); have ZG : Kd.S jU 126 w14 w.heap.size (fun _ => True) (.slice (some ⟨cO, 0, none⟩) bA.length DY) c08 := (by rw [hw, c7N.out]; exact ZP.1); clear ZP; replace dS := am_ (ZG); replace HB := am_ ((by rw [hw]; exact aAk (aAk (HB.out) lC.out) lC.out : Below w.heap.size w w14)); clear aUO; clear hg hw ZG))
        go_roundg k1
        case measure => have := jK.out; omega
        case rel => exact ⟨(c08), (wrap64 (aT + 1)), rs_, H', ⟨by have := jK.out; omega⟩, ⟨by (with_reducible repeat (first | apply Kd.aGt | apply Kd.aGu | apply Kd.aJl)); exact dS.out⟩, ⟨bb_⟩⟩
       ·rw [if_neg c9] at H
        exact nn_ H
      ·rw [if_neg c7] at H
       exact nn_ H
     ·rw [if_neg c6] at H
      have mY := decide_eq_false c6; clear c6; obtain rfl := Option.some.inj H
      go_wp2
      go_ret
      (exact ⟨_, rr_, by (with_reducible repeat (first | apply Kd.aGt | apply Kd.aGu | apply Kd.aJl)); exact dS.out, by repeat (first | (with_reducible first | exact HB.out | apply aAi | apply aAo | apply aAm) | exact HB.out)⟩)
  ·rw [if_neg c3] at H
   exact nn_ H
 ·rw [if_neg c2] at H
  exact nn_ H

def nA.f (k : Nat) (aA : Int) (bS : List S136) : Option (Int × (List S126)) := (dZ.f k bS).bind fun t143 => (some (aA, t143))
theorem nA.calls (k : Nat) (aA : Int) (lW : Option Addr) (lS : Nat) (bS : List S136) (r1 : Int) (r2 : List S126) (w : World) (qC : Kd.C aNa w lW bS.length bS) (sN : bS.length ≤ lS) (h : nA.f k aA bS = some (r1, r2)) :
  Calls Tryz.prog 51 #[.agg #[.int .i64 aA, .slice lW bS.length lS]] w fun e w' => ∃ v1_ : Value, e = .returned (.agg #[.int .i64 r1, v1_]) ∧ Kd.S jU 126 w' w.heap.size (fun _ => True) v1_ r2 ∧ Below w.heap.size w w' := by
 obtain ⟨b38, NT⟩ := d7E
 have xG := am_ qC
 have JH := am_ sN
 clear qC sN
 have HB := am_ (Below.refl w.heap.size w)
 have H : ((dZ.f k bS).bind fun t143 => (some (aA, t143))) = some (r1, r2) := h
 clear h
 replace H := aBp H
 obtain ⟨t143, BB, H⟩ := H
 try dsimp only at H
 have A2 := am_ BB
 clear BB
 simp only [Option.some.injEq, Prod.mk.injEq] at H
 obtain ⟨rfl, rfl⟩ := H
 go_enter Tryz.func51, Tryz.ntmps51
 go_wp2_with (first | ((with_reducible refine aAc (N := 1) rfl ?_); refine bx_ 1 #[.int .i64 aA, .slice lW bS.length lS] 57 ?_; intro c6L hg w3 hbox hb; have I6 := am_ (hbox); have cH5 := gw_ hg; replace HB := bs_ hb; clear hb hbox hg) | ((with_reducible refine aAc (N := 2) rfl ?_); refine bx_ 2 #[.int .i64 0, .slice none 0 0] 66 ?_; intro bPR hg w4 hbox hb; have U6 := am_ (hbox); have cB7 := gw_ hg; have b09 := nl_ hg I6; have b04 := ng_ hg I6; replace I6 := aAt I6 hb; replace HB := bs_ hb; clear hb hbox hg) | ((with_reducible refine aAc (N := 3) rfl ?_); refine bx_ 3 #[.int .i64 0, .slice none 0 0] 66 ?_; intro cAW hg w5 hbox hb; have aTZ := am_ (hbox); have cHZ := gw_ hg; have a1E := nl_ hg I6; have b0B := ng_ hg I6; have a1H := nl_ hg U6; have b0A := ng_ hg U6; replace I6 := aAt I6 hb; replace U6 := aAt U6 hb; replace HB := bs_ hb; clear hb hbox hg; have bIT := b09.out; have bBM := b04.out; have bKU := a1E.out; have bJT := b0B.out; obtain ⟨qI, qG, qF, qH⟩ := b2_ I6; have bSZ := b0A.out; have bV2 := a1H.out; obtain ⟨lN, lL, lM, lJ⟩ := b2_ aTZ) | ((with_reducible refine aAa (f := 71) rfl ?_); refine aBh (some 9) Tryz.func71 #[.slice lW bS.length lS] ?_; (with_reducible refine (dZ.calls _ _ _ _ _ _ (Kd.aAp xG.out bb_) JH.out A2.out).mono ?_); rintro e jI ⟨dDU, rfl, ho0, hb⟩; refine ⟨_, rfl, ?_⟩; have bON := am_ (Kd.aHs ho0 (aAj bb_)); replace I6 := am_ (aBe (g := c6L) (o := .cells #[.int .i64 aA, .slice lW bS.length lS] 57 (0, 0)) (aQk a1E (aBx I6.out)) hb); replace U6 := am_ (aBe (g := bPR) (o := .cells #[.int .i64 0, .slice none 0 0] 66 (0, 0)) (aQk a1H (aBx U6.out)) hb); replace aTZ := am_ (aBe (g := cAW) (o := .cells #[.int .i64 aA, .slice none 0 0] 66 (0, 0)) bw_ hb); replace HB := bs_ hb; clear hb ho0; obtain ⟨qZ, qN, H9⟩ := Kd.aJh bON.out; subst H9; obtain ⟨MU, KT, LB, KJ⟩ := b2_ aTZ; obtain ⟨nZ, nV, oG, nW⟩ := b2_ U6))
 refine bodyPost_ret (results_cell_row rfl _ _ bPR 66 #[.int .i64 aA, .slice qZ t143.length qN] (0, 0) _ rfl bw_ Tryz.underlying66 rfl (by kernel_rfl)) rfl ?_
 exact ⟨_, rr_, by (with_reducible repeat (first | apply Kd.aGt | apply Kd.aGu | apply Kd.aJl)); exact Kd.aKm (aYe (aKg (Kd.aHv (Kd.aHv bON.out aTZ.out (by decide)) U6.out (by decide)) (fun _ hk => hk.1.2)) (fun _ hk => hk.2)) (fun _ hk => trivial), by repeat (first | (with_reducible first | exact HB.out | apply aAi | apply aAo | apply aAm | refine aAk ?_ cH5.out | refine aAk ?_ cB7.out | refine aAk ?_ cHZ.out) | exact HB.out)⟩

def z8.f (k : Nat) (aA : ByteArray) (aD : Int) (kK : List S136) : Option (ByteArray × Int × (List S126)) := (nA.f k aD kK).bind fun aDJ => (some (aA, aDJ.1, aDJ.2))
theorem z8.calls (k : Nat) (aA : ByteArray) (aD : Int) (wQ : Option Addr) (wP : Nat) (kK : List S136) (r1 : ByteArray) (r2 : Int) (r3 : List S126) (w : World) (JX : Kd.C aNa w wQ kK.length kK) (JE : kK.length ≤ wP) (h : z8.f k aA aD kK = some (r1, r2, r3)) :
  Calls Tryz.prog 23 #[.agg #[.string aA, .int .i64 aD, .slice wQ kK.length wP]] w fun e w' => ∃ v2_ : Value, e = .returned (.agg #[.string r1, .int .i64 r2, v2_]) ∧ Kd.S jU 126 w' w.heap.size (fun _ => True) v2_ r3 ∧ Below w.heap.size w w' := by
 obtain ⟨bVY, aJ8, b38, NT⟩ := d4V
 have PS := am_ JX
 have NY := am_ JE
 clear JX JE
 have HB := am_ (Below.refl w.heap.size w)
 have H : ((nA.f k aD kK).bind fun aDJ => (some (aA, aDJ.1, aDJ.2))) = some (r1, r2, r3) := h
 clear h
 replace H := aBp H
 obtain ⟨⟨d5S, d7B⟩, BB, H⟩ := H
 try dsimp only at H
 have A2 := am_ BB
 clear BB
 simp only [Option.some.injEq, Prod.mk.injEq] at H
 obtain ⟨rfl, rfl, rfl⟩ := H
 go_enter Tryz.func23, Tryz.ntmps23
 go_wp2_with (first | ((with_reducible refine aAc (N := 1) rfl ?_); refine bx_ 1 #[.string aA, .int .i64 aD, .slice wQ kK.length wP] 59 ?_; intro c3J hg w3 hbox hb; have K8 := am_ (hbox); have cDC := gw_ hg; replace HB := bs_ hb; clear hb hbox hg) | ((with_reducible refine aAc (N := 2) rfl ?_); refine bx_ 2 #[.string (⟨#[]⟩ : ByteArray), .int .i64 0, .slice none 0 0] 68 ?_; intro bQH hg w4 hbox hb; have U8 := am_ (hbox); have c6F := gw_ hg; have aZ9 := nl_ hg K8; have b07 := ng_ hg K8; replace K8 := aAt K8 hb; replace HB := bs_ hb; clear hb hbox hg) | ((with_reducible refine aAc (N := 3) rfl ?_); refine bx_ 3 #[.string (⟨#[]⟩ : ByteArray), .int .i64 0, .slice none 0 0] 68 ?_; intro c5W hg w5 hbox hb; have aKG := am_ (hbox); have cKF := gw_ hg; have a1L := nl_ hg K8; have aYZ := ng_ hg K8; have a1S := nl_ hg U8; have b0G := ng_ hg U8; replace K8 := aAt K8 hb; replace U8 := aAt U8 hb; replace HB := bs_ hb; clear hb hbox hg; have bIT := aZ9.out; have bBM := b07.out; have bKU := a1L.out; have bJT := aYZ.out; obtain ⟨qI, qG, xA, qF, qH, xD⟩ := b3_ K8; have bSZ := b0G.out; have bV2 := a1S.out; obtain ⟨lN, lL, nI, lM, lJ, nD⟩ := b3_ aKG) | ((with_reducible refine aAa (f := 51) rfl ?_); refine aBh (some 9) Tryz.func51 #[.agg #[.int .i64 aD, .slice wQ kK.length wP]] ?_; (with_reducible refine (nA.calls _ _ _ _ _ _ _ _ (Kd.aAp PS.out bb_) NY.out A2.out).mono ?_); rintro e jI ⟨dE3, rfl, ho0, hb⟩; refine ⟨_, rfl, ?_⟩; have bQZ := am_ (Kd.aHs ho0 (aAj bb_)); replace K8 := am_ (aBe (g := c3J) (o := .cells #[.string aA, .int .i64 aD, .slice wQ kK.length wP] 59 (0, 0)) (aQk a1L (aBx K8.out)) hb); replace U8 := am_ (aBe (g := bQH) (o := .cells #[.string (⟨#[]⟩ : ByteArray), .int .i64 0, .slice none 0 0] 68 (0, 0)) (aQk a1S (aBx U8.out)) hb); replace aKG := am_ (aBe (g := c5W) (o := .cells #[.string aA, .int .i64 0, .slice none 0 0] 68 (0, 0)) bw_ hb); replace HB := bs_ hb; clear hb ho0; obtain ⟨uI, tF, xS, uA, sG, xW⟩ := b3_ aKG; obtain ⟨a5E, a4B, b2A⟩ := Kd.aJh bQZ.out; subst b2A; obtain ⟨nZ, nV, rD, oG, nW, rA⟩ := b3_ U8))
 refine bodyPost_ret (results_cell_row rfl _ _ bQH 68 #[.string aA, .int .i64 d5S, .slice a5E d7B.length a4B] (0, 0) _ rfl bw_ Tryz.underlying68 rfl (by kernel_rfl)) rfl ?_
 exact ⟨_, rr_, by (with_reducible repeat (first | apply Kd.aGt | apply Kd.aGu | apply Kd.aJl)); exact Kd.aKm (aZd (aYe (Kd.aHv (Kd.aHv bQZ.out aKG.out (by decide)) U8.out (by decide)) (fun _ hk => hk.1.2)) (fun _ hk => hk.2)) (fun _ hk => trivial), by repeat (first | (with_reducible first | exact HB.out | apply aAi | apply aAo | apply aAm | refine aAk ?_ cDC.out | refine aAk ?_ c6F.out | refine aAk ?_ cKF.out) | exact HB.out)⟩

def eU.l0 : Nat → List S59 → List S68 → Int → Option ((List S68))
 | 0, _, _, _ => none
 | k + 1, x0, x3, x4 => if x4 < (x0.length : Int) then (if 0 ≤ x4 then ((z8.f k ((mJ x0 x4).f0) ((mJ x0 x4).f1.f0) ((mJ x0 x4).f1.f1)).bind fun b4B => (if x4 < (x3.length : Int) then (eU.l0 k x0 (x3.set (x4 : Int).toNat (⟨b4B.1, (⟨b4B.2.1, b4B.2.2⟩ : S66)⟩ : S68)) (wrap64 (x4 + 1))) else (none))) else (none)) else (some x3)
def eU.f (k : Nat) (l0 : List S59) : Option ((List S68)) := if 0 ≤ (l0.length : Int) then (if ((l0.length : Int) : Int).toNat ≤ 5864062014805 then (eU.l0 k l0 (List.replicate ((l0.length : Int) : Int).toNat z68) 0) else (none)) else (none)
theorem eU.calls (k : Nat) (A0 : Option Addr) (c0 : Nat) (l0 : List S59) (r : List S68) (w : World) (hr0 : Kd.C k59 w A0 l0.length l0) (hc0 : l0.length ≤ c0) (h : eU.f k l0 = some r) :
  Calls Tryz.prog 8 #[.slice A0 l0.length c0] w fun e w' => ∃ I7 : Value, e = .returned (I7) ∧ Kd.R BC 68 w' w.heap.size (fun _ => True) I7 r ∧ Below w.heap.size w w' := by
 obtain ⟨bVY, aJ8⟩ := d6E
 have jY := am_ hr0
 have oQ := am_ hc0
 clear hr0 hc0
 have HB := am_ (Below.refl w.heap.size w)
 have H : (if 0 ≤ (l0.length : Int) then (if ((l0.length : Int) : Int).toNat ≤ 5864062014805 then (eU.l0 k l0 (List.replicate ((l0.length : Int) : Int).toNat z68) 0) else (none)) else (none)) = some r := h
 clear h
 by_cases c2 : 0 ≤ (l0.length : Int)
 ·rw [if_pos c2] at H
  have qD := eq_true c2; have JA := decide_eq_true c2; clear c2
  by_cases c3 : ((l0.length : Int) : Int).toNat ≤ 5864062014805
  ·rw [if_pos c3] at H
   have fC := eq_true c3; have lI := decide_eq_true c3; clear c3; obtain ⟨y153, hy153⟩ : ∃ y_ : List S68, y_ = (List.replicate ((l0.length : Int) : Int).toNat z68) := ⟨_, rfl⟩; (replace H : (eU.l0 k l0 y153 0) = some r := by first | (rw [hy153]; with_reducible exact H) | (have jC := (Option.bind_some _ _).symm.trans H; rw [hy153]; with_reducible exact jC) | (have jC := (Option.bind_some _ _).symm.trans H; with_reducible exact jC) | with_reducible exact H | (rw [hy153]; exact H) | exact H); have bP6 := am_ hy153; clear hy153; have H' := am_ H; clear H
   go_enter Tryz.func8, Tryz.ntmps8
   go_wp2_with (first | ((with_reducible refine aAc (N := 7) rfl ?_); refine Kd.aKq BC _ 68 rfl (N := 7) rfl 34 _ _ rfl (l0.length : Int) rfl rfl Tryz.underlying34 (.agg #[(.string ⟨#[]⟩), (.int .i64 0), (.slice none 0 0)]) 48 bWK rfl (by decide) (by omega) z68 (ok := fun _ => True) (okp := fun _ => True) (aKI _ _ _ z68 (Kd.aFr _ _ _ _ _)) (fun _ hk => hk) trivial (oa_) (Nat.le_trans (Nat.mul_le_mul_right _ (oa_ : (l0.length : Int).toNat ≤ 5864062014805)) (by omega)) (Below.refl _ _) (Nat.le_refl _) ?_; intro v154 w4 EY hb DZ j4; clear DZ j4; (first | rw [← bP6.out] at EY | (simp only [Int.reduceToNat] at EY; rw [← bP6.out] at EY)); have c8T := am_ (Kd.aBc EY (aAj bb_)); replace HB := bs_ hb; clear hb EY))
   go_loopg [4] k (fun kq v4 w' => ∃ (bA : List S68) (aT : Int), v4 = .int .i64 aT ∧ Aside0 (eU.l0 kq l0 bA aT = some r) ∧ Aside0 (kq ≤ k) ∧ Aside0 (Kd.R BC 68 w' w.heap.size (fun _ => True) v154 bA) ∧ Aside0 (Below w.heap.size w w'))
   case atStart => exact ⟨(y153), (0), rs_, H', ⟨Nat.le_refl _⟩, ⟨by (with_reducible repeat (first | apply Kd.aBf | apply Kd.aBg | apply Kd.aBi)); exact c8T.out⟩, ⟨bb_⟩⟩
   case round =>
    clear H'; (try clear c2); (try clear qD); (try clear JA); (try clear p2); (try clear c3); (try clear fC); (try clear lI); obtain ⟨bA, aT, rfl, HA, jK, dS, HB⟩ := hrel
    cases gk with
    | zero => exact absurd HA.out (by simp [eU.l0])
    | succ k1 =>
     have H := HA.out; clear HA; simp only [eU.l0] at H
     by_cases c6 : aT < (l0.length : Int)
     ·rw [if_pos c6] at H
      have mY := decide_eq_true c6; clear c6
      by_cases c7 : 0 ≤ aT
      ·rw [if_pos c7] at H
       have iV := decide_eq_true c7; clear c7; replace H := aBp H; obtain ⟨⟨t157, b7G, t159⟩, RY, H⟩ := H
       try dsimp only at H
       have A8 := am_ RY; clear RY
       by_cases c9 : aT < (bA.length : Int)
       ·rw [if_pos c9] at H
        have xC := decide_eq_true c9; clear c9; obtain ⟨bYN, aF6⟩ : ∃ y_ : List S68, y_ = (bA.set (aT : Int).toNat (⟨t157, (⟨b7G, t159⟩ : S66)⟩ : S68)) := ⟨_, rfl⟩; (replace H : (eU.l0 k1 l0 bYN (wrap64 (aT + 1))) = some r := by first | (rw [aF6]; with_reducible exact H) | (have jC := (Option.bind_some _ _).symm.trans H; rw [aF6]; with_reducible exact jC) | (have jC := (Option.bind_some _ _).symm.trans H; with_reducible exact jC) | with_reducible exact H | (rw [aF6]; exact H) | exact H); have cI0 := am_ aF6; clear aF6; have H' := am_ H; clear H; (have bWU : 0 ≤ (aT : Int) := oa_); (have bZZ : aT < (l0.length : Int) := oa_); obtain ⟨d8N, bTW, bXB, d43, aMW, aV4, aOH, aKT, aQC⟩ := b2G jY.out aT bWU bZZ; cases d43; obtain ⟨aMW, aV4, aOH⟩ := aNo HB aMW aV4 aOH; have bJA := am_ aQC; have bGT := am_ aKT; clear aQC aKT; replace bWU := eq_true bWU; replace bZZ := eq_true bZZ
        go_wp2_with (first | ((with_reducible refine aAa (f := 23) rfl ?_); refine aBh (some 20) Tryz.func23 #[.agg #[.string ((mJ l0 aT).f0), .int .i64 ((mJ l0 aT).f1.f0), .slice bTW ((mJ l0 aT).f1.f1).length bXB]] ?_; (with_reducible refine (z8.calls _ _ _ _ _ _ _ _ _ _ (cb_ bJA HB) bGT.out A8.out).mono ?_); rintro e jI ⟨v160, rfl, ho0, hb⟩; refine ⟨_, rfl, ?_⟩; have b1D := am_ (Kd.aHs ho0 (aAj bb_)); replace dS := am_ (Kd.aCi (rk_ dS.out) (Kd.aUa ho0) hb); replace HB := bs_ hb; clear hb ho0; have ZQ : 0 ≤ (aT : Int) := oa_; have ZC : (aT : Int) < ((bA.length : Int) : Int) := oa_; obtain ⟨cO, DY, DX, JK, Y4, b5P, JC⟩ := Kd.aIf dS.out (by omega); (first | cases DX | (injection DX with rW SI TD; (first | subst rW | (injection rW with rW; subst rW)); subst TD; clear SI)); have lC := am_ JK; have b2H := am_ JC; clear JK Y4 JC; obtain ⟨b52, J3, IE, gP, gM⟩ := Kd.aFv dS.out z68 (aT : Int) ZQ ZC; obtain ⟨bZN, rfl, d4S⟩ := a0V IE; have YJ : jI.cell? ⟨cO, (aT : Int).toNat * 3, none⟩ = some (.string ((dE bA aT).f0)) := gP 0 _ rfl; have Y2 : jI.cell? ⟨cO, (aT : Int).toNat * 3 + 1, none⟩ = some (.int .i64 ((dE bA aT).f1.f0)) := gP 1 _ rfl; have a6P : jI.cell? ⟨cO, (aT : Int).toNat * 3 + 2, none⟩ = some (bZN) := gP 2 _ rfl; have XT : jI.frozen? ⟨cO, (aT : Int).toNat * 3, none⟩ = false := gM 0; have YN : jI.frozen? ⟨cO, (aT : Int).toNat * 3 + 1, none⟩ = false := gM 1; have aAU : jI.frozen? ⟨cO, (aT : Int).toNat * 3 + 2, none⟩ = false := gM 2; clear J3 gP gM IE; replace ZQ := eq_true ZQ; replace ZC := eq_true ZC; obtain ⟨qZ, qN, H9⟩ := Kd.aJh b1D.out; subst H9; have n_ := am_ (Kd.aAw (ok' := (fun k_ => some k_ ≠ (.slice qZ t159.length qN : Value).ownBlock)) dS.out (fun k_ hk => hk.2)); clear dS; have dS := n_; clear n_; have aIT := am_ (show Kd.R BC 68 jI w.heap.size (fun _ => True) (.slice (some ⟨cO, 0, none⟩) bA.length DY) bA from (rk_ (Kd.aAw dS.out (fun _ hk => trivial)))); obtain ⟨cK2, ZE, aEV, uB, wZ⟩ := Kd.aFv aIT.out z68 (aT : Int) (oa_) (by have h_ : (aT : Int) < ((bA.length : Int) : Int) := oa_; first | exact h_ | (have e_ := (Kd.aAr dS.out).1; omega) | simpa using h_); obtain ⟨d67, rfl, d5A⟩ := a0V aEV; have ZP := Kd.aPx aIT.out (aT : Int) (oa_) (by have h_ : (aT : Int) < ((bA.length : Int) : Int) := oa_; first | exact h_ | (have e_ := (Kd.aAr dS.out).1; omega) | simpa using h_) (seg := [.string t157, .int .i64 b7G, .slice qZ t159.length qN]) (j := 0) ZE uB (show 3 ≤ 3 from by decide) (x' := (⟨t157, (⟨b7G, t159⟩ : S66)⟩ : S68)) (aKI _ _ _ (⟨t157, (⟨b7G, t159⟩ : S66)⟩ : S68) (Kd.aAw (Kd.aEh ((Kd.S_R b1D.out)) (Kd.aGe dS.out) (by decide)) (fun k_ hk => ⟨trivial, fun e_ => (hk.2) (by rw [e_]; rfl)⟩))) (fun _ hk => hk); have YO := uB 0 _ rfl; have ZV := wZ 0; have YL := uB 1 _ rfl; have ZB := wZ 1; have aIX := uB 2 _ rfl; have aJJ := wZ 2; (try simp only [show (BC).sz = 3 from rfl, Nat.mul_one, Nat.add_zero] at YO ZV YL ZB aIX aJJ); clear ZE uB wZ aEV) | ((with_reducible refine aDn (t := 68) (p := 21) rfl ?_); refine aCy (t := 68) (p := 21) (v := ?bAS) (w1 := (((jI.setCell ⟨cO, (aT : Int).toNat * 3, none⟩ (.string t157)).setCell ⟨cO, (aT : Int).toNat * 3 + 1, none⟩ (.int .i64 b7G)).setCell ⟨cO, (aT : Int).toNat * 3 + 2, none⟩ (.slice qZ t159.length qN))) ?hg ?ho ?hn ?hr ?_; (case ho => rfl); (case hg => rfl); (case hn => rfl); (case hr => first | (go_simp; done) | (go_simp; rfl)); intro w14 hw; have hg : jI.grownBy w14 (some cO) := (by rw [hw]; exact ZP.2); have ZG : Kd.R BC 68 w14 w.heap.size (fun _ => True) (.slice (some ⟨cO, 0, none⟩) bA.length DY) bYN := (by rw [hw, cI0.out]; exact ZP.1); clear ZP; replace dS := am_ (ZG); replace HB := am_ ((by rw [hw]; exact aAk (aAk (aAk (HB.out) lC.out) lC.out) lC.out : Below w.heap.size w w14)); clear b1D; clear hg hw ZG))
        go_roundg k1
        case measure => have := jK.out; omega
        case rel => exact ⟨(bYN), (wrap64 (aT + 1)), rs_, H', ⟨by have := jK.out; omega⟩, ⟨by (with_reducible repeat (first | apply Kd.aBf | apply Kd.aBg | apply Kd.aBi)); exact dS.out⟩, ⟨bb_⟩⟩
       ·rw [if_neg c9] at H
        exact nn_ H
      ·rw [if_neg c7] at H
       exact nn_ H
     ·rw [if_neg c6] at H
      have mY := decide_eq_false c6; clear c6; obtain rfl := Option.some.inj H
      go_wp2
      go_ret
      (exact ⟨_, rr_, by (with_reducible repeat (first | apply Kd.aBf | apply Kd.aBg | apply Kd.aBi)); exact dS.out, by repeat (first | (with_reducible first | exact HB.out | apply aAi | apply aAo | apply aAm) | exact HB.out)⟩)
  ·rw [if_neg c3] at H
   exact nn_ H
 ·rw [if_neg c2] at H
  exact nn_ H

def iH.f (aA aD : Int) (aH : ByteArray) (aX bD : Int) (bJ : ByteArray) : Option Bool := if aA = aX then (if aD = bD then (if aH.toList = bJ.toList then (some true) else (some false)) else (some false)) else (some false)
theorem iH.calls (aA aD : Int) (aH : ByteArray) (aX bD : Int) (bJ : ByteArray) (r : Bool) (w : World) (h : iH.f aA aD aH aX bD bJ = some r) :
  Calls Tryz.prog 55 #[.agg #[.int .i64 aA, .int .i64 aD, .string aH], .agg #[.int .i64 aX, .int .i64 bD, .string bJ]] w fun e w' => e = .returned (.bool r) ∧ Below w.heap.size w w' := by
 have QU := Tryz.underlying36
 have HB := am_ (Below.refl w.heap.size w)
 have H : (if aA = aX then (if aD = bD then (if aH.toList = bJ.toList then (some true) else (some false)) else (some false)) else (some false)) = some r := h
 clear h
 by_cases c3 : aA = aX
 ·rw [if_pos c3] at H
  have fC : (aA == aX) = true := beq_iff_eq.mpr c3; have lI : (aA != aX) = false := bne_eq_false_iff_eq.mpr c3; clear c3
  by_cases c4 : aD = bD
  ·rw [if_pos c4] at H
   have iB : (aD == bD) = true := beq_iff_eq.mpr c4; have a0A : (aD != bD) = false := bne_eq_false_iff_eq.mpr c4; clear c4
   by_cases c5 : aH.toList = bJ.toList
   ·rw [if_pos c5] at H
    have pV : (aH.toList == bJ.toList) = true := beq_iff_eq.mpr c5; have NR : (aH.toList != bJ.toList) = false := bne_eq_false_iff_eq.mpr c5; clear c5; obtain rfl := Option.some.inj H
    go_enter Tryz.func55, Tryz.ntmps55
    go_wp2_with (first | ((with_reducible refine aAc (N := 2) rfl ?_); refine bx_ 2 #[.int .i64 aA, .int .i64 aD, .string aH] 36 ?_; intro b1A hg w6 hbox hb; have oZ := am_ (hbox); have b7M := gw_ hg; replace HB := bs_ hb; clear hb hbox hg) | ((with_reducible refine aAc (N := 3) rfl ?_); refine bx_ 3 #[.int .i64 aX, .int .i64 bD, .string bJ] 36 ?_; intro b8Z hg w7 hbox hb; have ZX := am_ (hbox); have b82 := gw_ hg; have uX := nl_ hg oZ; have vB := ng_ hg oZ; replace oZ := aAt oZ hb; replace HB := bs_ hb; clear hb hbox hg; have aJF := uX.out; have aJ2 := vB.out; obtain ⟨mX, nC, xB, nH, nG, x9⟩ := b3_ oZ; obtain ⟨lN, lL, nI, lM, lJ, nD⟩ := b3_ ZX))
    go_ret
    exact ⟨er_, bb_⟩
   ·rw [if_neg c5] at H
    have pV : (aH.toList == bJ.toList) = false := beq_eq_false_iff_ne.mpr c5; have NR : (aH.toList != bJ.toList) = true := bne_iff_ne.mpr c5; obtain rfl := Option.some.inj H
    go_enter Tryz.func55, Tryz.ntmps55
    go_wp2_with (first | ((with_reducible refine aAc (N := 2) rfl ?_); refine bx_ 2 #[.int .i64 aA, .int .i64 aD, .string aH] 36 ?_; intro b1A hg jI hbox hb; have oZ := am_ (hbox); have b7M := gw_ hg; replace HB := bs_ hb; clear hb hbox hg) | ((with_reducible refine aAc (N := 3) rfl ?_); refine bx_ 3 #[.int .i64 aX, .int .i64 bD, .string bJ] 36 ?_; intro b8Z hg w12 hbox hb; have ZX := am_ (hbox); have b82 := gw_ hg; have uX := nl_ hg oZ; have vB := ng_ hg oZ; replace oZ := aAt oZ hb; replace HB := bs_ hb; clear hb hbox hg; have dBG := uX.out; have dAD := vB.out; obtain ⟨nZ, nV, rD, oG, nW, rA⟩ := b3_ oZ; obtain ⟨pX, pU, rQ, pJ, pR, rR⟩ := b3_ ZX))
    go_ret
    exact ⟨er_, bb_⟩
  ·rw [if_neg c4] at H
   have iB : (aD == bD) = false := beq_eq_false_iff_ne.mpr c4; have a0A : (aD != bD) = true := bne_iff_ne.mpr c4; obtain rfl := Option.some.inj H
   go_enter Tryz.func55, Tryz.ntmps55
   go_wp2_with (first | ((with_reducible refine aAc (N := 2) rfl ?_); refine bx_ 2 #[.int .i64 aA, .int .i64 aD, .string aH] 36 ?_; intro b1A hg w16 hbox hb; have oZ := am_ (hbox); have b7M := gw_ hg; replace HB := bs_ hb; clear hb hbox hg) | ((with_reducible refine aAc (N := 3) rfl ?_); refine bx_ 3 #[.int .i64 aX, .int .i64 bD, .string bJ] 36 ?_; intro b8Z hg w17 hbox hb; have ZX := am_ (hbox); have b82 := gw_ hg; have uX := nl_ hg oZ; have vB := ng_ hg oZ; replace oZ := aAt oZ hb; replace HB := bs_ hb; clear hb hbox hg; have dBL := uX.out; have d9Z := vB.out; obtain ⟨yC, yG, yI, xX, xR, yF⟩ := b3_ oZ; obtain ⟨yD, xU, CJ, yN, yL, BR⟩ := b3_ ZX))
   go_ret
   exact ⟨er_, bb_⟩
 ·rw [if_neg c3] at H
  have fC : (aA == aX) = false := beq_eq_false_iff_ne.mpr c3; have lI : (aA != aX) = true := bne_iff_ne.mpr c3; obtain rfl := Option.some.inj H
  go_enter Tryz.func55, Tryz.ntmps55
  go_wp2_with (first | ((with_reducible refine aAc (N := 2) rfl ?_); refine bx_ 2 #[.int .i64 aA, .int .i64 aD, .string aH] 36 ?_; intro b1A hg w21 hbox hb; have oZ := am_ (hbox); have b7M := gw_ hg; replace HB := bs_ hb; clear hb hbox hg) | ((with_reducible refine aAc (N := 3) rfl ?_); refine bx_ 3 #[.int .i64 aX, .int .i64 bD, .string bJ] 36 ?_; intro b8Z hg w22 hbox hb; have ZX := am_ (hbox); have b82 := gw_ hg; have uX := nl_ hg oZ; have vB := ng_ hg oZ; replace oZ := aAt oZ hb; replace HB := bs_ hb; clear hb hbox hg; have d81 := uX.out; have dBC := vB.out; obtain ⟨SC, OA, PM, QW, P6, PN⟩ := b3_ oZ; obtain ⟨uG, uH, vI, sI, tO, vQ⟩ := b3_ ZX))
  go_ret
  exact ⟨er_, bb_⟩

def d9.l0 : Nat → List S36 → List S36 → Int → Option Bool
 | 0, _, _, _ => none
 | k + 1, x0, x1, x5 => if x5 < (x0.length : Int) then (if 0 ≤ x5 then (if x5 < (x1.length : Int) then ((iH.f ((gT x0 x5).f0) ((gT x0 x5).f1) ((gT x0 x5).f2) ((gT x1 x5).f0) ((gT x1 x5).f1) ((gT x1 x5).f2)).bind fun t167 => (if t167 = true then (d9.l0 k x0 x1 (wrap64 (x5 + 1))) else (some false))) else (none)) else (none)) else (some true)
def d9.f (k : Nat) (l0 l1 : List S36) : Option Bool := if (l0.length : Int) = (l1.length : Int) then (d9.l0 k l0 l1 0) else (some false)
def d9.T6 : Bool × List (List Nat × List Nat) := (true, [([], []), ([], []), ([0, 1], [0, 1]), ([2], [2]), ([], []), ([], []), ([4, 5], [4, 5]), ([6], [6]), ([3, 7], [3, 7]), ([8], [8])])
def d9.B6 : List Nat := [0, 0, 3, 7, 0, 0, 48, 112, 255, 511]
theorem d9.BF : aEr .any (opsOf Tryz.f123 6) = d9.T6 := by kernel_rfl
theorem d9.pY : aBu d9.T6.2 d9.B6 = true := by kernel_rfl
theorem d9.calls (k : Nat) (A0 : Option Addr) (c0 : Nat) (l0 : List S36) (A1 : Option Addr) (c1 : Nat) (l1 : List S36) (r : Bool) (w : World) (hr0 : Kd.C ER w A0 l0.length l0) (hc0 : l0.length ≤ c0) (hr1 : Kd.C ER w A1 l1.length l1) (hc1 : l1.length ≤ c1) (h : d9.f k l0 l1 = some r) :
  Calls Tryz.prog 123 #[.slice A0 l0.length c0, .slice A1 l1.length c1] w fun e w' => e = .returned (.bool r) ∧ Below w.heap.size w w' := by
 have QU := Tryz.underlying36
 have jY := am_ hr0
 have oQ := am_ hc0
 clear hr0 hc0
 have HR1 := am_ hr1
 have MZ := am_ hc1
 clear hr1 hc1
 have HB := am_ (Below.refl w.heap.size w)
 have H : (if (l0.length : Int) = (l1.length : Int) then (d9.l0 k l0 l1 0) else (some false)) = some r := h
 clear h
 by_cases c3 : (l0.length : Int) = (l1.length : Int)
 ·rw [if_pos c3] at H
  have fC : ((l0.length : Int) == (l1.length : Int)) = true := beq_iff_eq.mpr c3; have lI : ((l0.length : Int) != (l1.length : Int)) = false := bne_eq_false_iff_eq.mpr c3; (have IC : (l0.length == l1.length) = true := by first | simpa using c3 | (simp at c3 ⊢; omega)); clear c3; have H' := am_ H; clear H
  go_enter Tryz.func123, Tryz.ntmps123
  go_wp2
  go_loopg [5] k (fun kq v5 w' => ∃ (aC : Int), v5 = .int .i64 aC ∧ Aside0 (d9.l0 kq l0 l1 aC = some r) ∧ Aside0 (kq ≤ k) ∧ Aside0 (Below w.heap.size w w'))
  case atStart => exact ⟨(0), rs_, H', ⟨Nat.le_refl _⟩, ⟨bb_⟩⟩
  case round =>
   clear H'; (try clear c1); (try clear p2); (try clear c3); (try clear fC); (try clear lI); (try clear IC); obtain ⟨aC, rfl, HA, jK, HB⟩ := hrel
   cases gk with
   | zero => exact absurd HA.out (by simp [d9.l0])
   | succ k1 =>
    have H := HA.out; clear HA; simp only [d9.l0] at H
    by_cases c4 : aC < (l0.length : Int)
    ·rw [if_pos c4] at H
     have iB := decide_eq_true c4; clear c4
     by_cases c5 : 0 ≤ aC
     ·rw [if_pos c5] at H
      have pV := decide_eq_true c5; clear c5
      by_cases c6 : aC < (l1.length : Int)
      ·rw [if_pos c6] at H
       have mY := decide_eq_true c6; clear c6; replace H := aBp H; obtain ⟨t167, ZI, H⟩ := H
       try dsimp only at H
       have A7 := am_ ZI; clear ZI; have gY := am_ H; clear H
       try go_wp2
       replace HB := am_ (aAm HB.out); (have bYQ : 0 ≤ (aC : Int) := oa_); (have bU6 : aC < (l0.length : Int) := oa_); obtain ⟨d8K, e165, a8W, a8U, a4F⟩ := Z5 jY.out aC bYQ bU6; cases e165; obtain ⟨bED, bFS, bD3⟩ := aNo HB a8W a8U a4F; replace bYQ := eq_true bYQ; replace bU6 := eq_true bU6; (have c06 : 0 ≤ (aC : Int) := oa_); (have bT8 : aC < (l1.length : Int) := oa_); obtain ⟨d9F, e166, a4S, a9J, a3E⟩ := Z5 HR1.out aC c06 bT8; cases e166; obtain ⟨bO0, bDQ, bBX⟩ := aNo HB a4S a9J a3E; replace c06 := eq_true c06; replace bT8 := eq_true bT8; (refine st_ 10 (hc_ ((hb_ HB a8W)) (hc_ ((hb_ HB a8U)) (hc_ ((hb_ HB a4F)) (hc_ ((hb_ HB a4S)) (hc_ ((hb_ HB a9J)) (hf_ ((hb_ HB a3E)))))))) (fun hHeld => ?_); refine aAv d9.BF d9.pY (fun HT_ HW_ => ?_)); generalize wr.drew = w9 at HB bED bFS bD3 bO0 bDQ bBX hHeld ⊢
       iterate 3 (refine pl_ ?_)
       refine aBa 4 (bm 10 23) ?_; refine aBa 5 (bm 10 55) ?_; refine aBa 6 (bm 10 119) ?_; refine aCx 3 (tf 7 3) ?_; refine tl_ ?_; refine aCm (i := 8) (N := some 25) (tf 9 1) (h := fun K hK => ?_); refine gs_ Tryz.func55 #[.agg #[.int .i64 ((gT l0 aC).f0), .int .i64 ((gT l0 aC).f1), .string ((gT l0 aC).f2)], .agg #[.int .i64 ((gT l1 aC).f0), .int .i64 ((gT l1 aC).f1), .string ((gT l1 aC).f2)]] ?_; (with_reducible refine (iH.calls _ _ _ _ _ _ _ _ A7.out).mono ?_); rintro e w10 ⟨rfl, hb⟩; refine ⟨_, rfl, ?_⟩; replace HB := bs_ hb; (try clear hb); refine hK.out _ _ (hc_ (hb_ HB a8W) (hc_ (hb_ HB a8U) (hc_ (hb_ HB a4F) (hc_ (hb_ HB a4S) (hc_ (hb_ HB a9J) (hf_ (hb_ HB a3E))))))) (fun hHeld => ?_); clear hK K; refine nm_ ?_; refine aBa 9 (tf 10 0) ?_; have H := gY.out; clear gY
       by_cases c8 : t167 = true
       ·subst c8
        rw [if_pos rfl] at H; have H' := am_ H; clear H; refine dn_ ?_
        try go_wp2
        go_roundg k1
        case measure => have := jK.out; omega
        case rel => exact ⟨(wrap64 (aC + 1)), rs_, H', ⟨by have := jK.out; omega⟩, ⟨bb_⟩⟩
       ·replace c8 := Bool.eq_false_iff.mpr c8
        subst c8; replace H := aZf H; obtain rfl := Option.some.inj H; refine dn_ ?_
        try go_wp2
        go_ret
        exact ⟨er_, bb_⟩
      ·rw [if_neg c6] at H
       exact nn_ H
     ·rw [if_neg c5] at H
      exact nn_ H
    ·rw [if_neg c4] at H
     have iB := decide_eq_false c4; clear c4; obtain rfl := Option.some.inj H
     go_wp2
     go_ret
     exact ⟨er_, bb_⟩
 ·rw [if_neg c3] at H
  have fC : ((l0.length : Int) == (l1.length : Int)) = false := beq_eq_false_iff_ne.mpr c3; have lI : ((l0.length : Int) != (l1.length : Int)) = true := bne_iff_ne.mpr c3; (have IC : (l0.length == l1.length) = false := by first | simpa using c3 | (simp at c3 ⊢; omega)); obtain rfl := Option.some.inj H
  go_enter Tryz.func123, Tryz.ntmps123
  go_wp2
  go_ret
  exact ⟨er_, bb_⟩

def mR.f (k : Nat) (lT : List S36) (aD : Int) (QF : List S36) (bD : Int) : Option Bool := (d9.f k lT QF).bind fun b9R => (if b9R = true then (if aD = bD then (some true) else (some false)) else (some false))
theorem mR.calls (k : Nat) (xL : Option Addr) (xY : Nat) (lT : List S36) (aD : Int) (aIQ : Option Addr) (aD0 : Nat) (QF : List S36) (bD : Int) (r : Bool) (w : World) (KC : Kd.C ER w xL lT.length lT) (JU : lT.length ≤ xY) (bPL : Kd.C ER w aIQ QF.length QF) (bPC : QF.length ≤ aD0) (h : mR.f k lT aD QF bD = some r) :
  Calls Tryz.prog 102 #[.agg #[.slice xL lT.length xY, .int .i64 aD], .agg #[.slice aIQ QF.length aD0, .int .i64 bD]] w fun e w' => e = .returned (.bool r) ∧ Below w.heap.size w w' := by
 have a1V := Tryz.underlying126
 have PL := am_ KC
 have OC := am_ JU
 clear KC JU
 have b8S := am_ bPL
 have bAD := am_ bPC
 clear bPL bPC
 have HB := am_ (Below.refl w.heap.size w)
 have H : ((d9.f k lT QF).bind fun b9R => (if b9R = true then (if aD = bD then (some true) else (some false)) else (some false))) = some r := h
 clear h
 replace H := aBp H
 obtain ⟨b9R, wN, H⟩ := H
 try dsimp only at H
 have A3 := am_ wN
 clear wN
 by_cases c4 : b9R = true
 ·subst c4
  rw [if_pos rfl] at H
  by_cases c5 : aD = bD
  ·rw [if_pos c5] at H
   have pV : (aD == bD) = true := beq_iff_eq.mpr c5; have NR : (aD != bD) = false := bne_eq_false_iff_eq.mpr c5; clear c5; obtain rfl := Option.some.inj H
   go_enter Tryz.func102, Tryz.ntmps102
   go_wp2_with (first | ((with_reducible refine aAc (N := 2) rfl ?_); refine bx_ 2 #[.slice xL lT.length xY, .int .i64 aD] 126 ?_; intro bPO hg w6 hbox hb; have nO := am_ (hbox); have bQK := gw_ hg; replace HB := bs_ hb; clear hb hbox hg) | ((with_reducible refine aAc (N := 3) rfl ?_); refine bx_ 3 #[.slice aIQ QF.length aD0, .int .i64 bD] 126 ?_; intro bOY hg w7 hbox hb; have EK := am_ (hbox); have bQ9 := gw_ hg; have EZ := nl_ hg nO; have EE := ng_ hg nO; replace nO := aAt nO hb; replace HB := bs_ hb; clear hb hbox hg; have aJF := EZ.out; have aJ2 := EE.out; obtain ⟨mX, nC, nH, nG⟩ := b2_ nO; obtain ⟨lN, lL, lM, lJ⟩ := b2_ EK) | ((with_reducible refine aAa (f := 123) rfl ?_); refine aBh (some 9) Tryz.func123 #[.slice xL lT.length xY, .slice aIQ QF.length aD0] ?_; (with_reducible refine (d9.calls _ _ _ _ _ _ _ _ _ (cb_ PL HB) OC.out (cb_ b8S HB) bAD.out A3.out).mono ?_); rintro e jI ⟨rfl, hb⟩; refine ⟨_, rfl, ?_⟩; replace nO := aAt nO hb; replace EK := aAt EK hb; replace HB := bs_ hb; (try clear hb); obtain ⟨uI, tF, uA, sG⟩ := b2_ nO; obtain ⟨MU, KT, LB, KJ⟩ := b2_ EK))
   go_ret
   exact ⟨er_, bb_⟩
  ·rw [if_neg c5] at H
   have pV : (aD == bD) = false := beq_eq_false_iff_ne.mpr c5; have NR : (aD != bD) = true := bne_iff_ne.mpr c5; obtain rfl := Option.some.inj H
   go_enter Tryz.func102, Tryz.ntmps102
   go_wp2_with (first | ((with_reducible refine aAc (N := 2) rfl ?_); refine bx_ 2 #[.slice xL lT.length xY, .int .i64 aD] 126 ?_; intro bPO hg w14 hbox hb; have nO := am_ (hbox); have bQK := gw_ hg; replace HB := bs_ hb; clear hb hbox hg) | ((with_reducible refine aAc (N := 3) rfl ?_); refine bx_ 3 #[.slice aIQ QF.length aD0, .int .i64 bD] 126 ?_; intro bOY hg w15 hbox hb; have EK := am_ (hbox); have bQ9 := gw_ hg; have EZ := nl_ hg nO; have EE := ng_ hg nO; replace nO := aAt nO hb; replace HB := bs_ hb; clear hb hbox hg; have c4S := EZ.out; have cHJ := EE.out; obtain ⟨uE, sJ, tL, uF⟩ := b2_ nO; obtain ⟨tY, tJ, tK, sO⟩ := b2_ EK) | ((with_reducible refine aAa (f := 123) rfl ?_); refine aBh (some 9) Tryz.func123 #[.slice xL lT.length xY, .slice aIQ QF.length aD0] ?_; (with_reducible refine (d9.calls _ _ _ _ _ _ _ _ _ (cb_ PL HB) OC.out (cb_ b8S HB) bAD.out A3.out).mono ?_); rintro e w19 ⟨rfl, hb⟩; refine ⟨_, rfl, ?_⟩; replace nO := aAt nO hb; replace EK := aAt EK hb; replace HB := bs_ hb; (try clear hb); obtain ⟨yD, xU, yN, yL⟩ := b2_ nO; obtain ⟨uD, uC, tZ, sU⟩ := b2_ EK))
   go_ret
   exact ⟨er_, bb_⟩
 ·replace c4 := Bool.eq_false_iff.mpr c4
  subst c4; replace H := aZf H; obtain rfl := Option.some.inj H
  go_enter Tryz.func102, Tryz.ntmps102
  go_wp2_with (first | ((with_reducible refine aAc (N := 2) rfl ?_); refine bx_ 2 #[.slice xL lT.length xY, .int .i64 aD] 126 ?_; intro bPO hg w22 hbox hb; have nO := am_ (hbox); have bQK := gw_ hg; replace HB := bs_ hb; clear hb hbox hg) | ((with_reducible refine aAc (N := 3) rfl ?_); refine bx_ 3 #[.slice aIQ QF.length aD0, .int .i64 bD] 126 ?_; intro bOY hg w23 hbox hb; have EK := am_ (hbox); have bQ9 := gw_ hg; have EZ := nl_ hg nO; have EE := ng_ hg nO; replace nO := aAt nO hb; replace HB := bs_ hb; clear hb hbox hg; have dBS := EZ.out; have dAN := EE.out; obtain ⟨uG, uH, sI, tO⟩ := b2_ nO; obtain ⟨XE, WS, UU, UK⟩ := b2_ EK) | ((with_reducible refine aAa (f := 123) rfl ?_); refine aBh (some 9) Tryz.func123 #[.slice xL lT.length xY, .slice aIQ QF.length aD0] ?_; (with_reducible refine (d9.calls _ _ _ _ _ _ _ _ _ (cb_ PL HB) OC.out (cb_ b8S HB) bAD.out A3.out).mono ?_); rintro e w27 ⟨rfl, hb⟩; refine ⟨_, rfl, ?_⟩; replace nO := aAt nO hb; replace EK := aAt EK hb; replace HB := bs_ hb; (try clear hb)))
  go_ret
  exact ⟨er_, bb_⟩
def bT.l0 : Nat → List S126 → List S126 → Int → Option Bool
 | 0, _, _, _ => none
 | k + 1, x0, x1, x5 => if x5 < (x0.length : Int) then (if 0 ≤ x5 then (if x5 < (x1.length : Int) then ((mR.f k ((bI x0 x5).f0) ((bI x0 x5).f1) ((bI x1 x5).f0) ((bI x1 x5).f1)).bind fun t173 => (if t173 = true then (bT.l0 k x0 x1 (wrap64 (x5 + 1))) else (some false))) else (none)) else (none)) else (some true)
def bT.f (k : Nat) (l0 l1 : List S126) : Option Bool := if (l0.length : Int) = (l1.length : Int) then (bT.l0 k l0 l1 0) else (some false)
def bT.T6 : Bool × List (List Nat × List Nat) := (true, [([], []), ([], []), ([0, 1], [0, 1]), ([2], [2]), ([], []), ([], []), ([4, 5], [4, 5]), ([6], [6]), ([3, 7], [3, 7]), ([8], [8])])
def bT.B6 : List Nat := [0, 0, 3, 7, 0, 0, 48, 112, 255, 511]
theorem bT.BF : aEr .any (opsOf Tryz.f79 6) = bT.T6 := by kernel_rfl
theorem bT.pY : aBu bT.T6.2 bT.B6 = true := by kernel_rfl
theorem bT.calls (k : Nat) (A0 : Option Addr) (c0 : Nat) (l0 : List S126) (A1 : Option Addr) (c1 : Nat) (l1 : List S126) (r : Bool) (w : World) (hr0 : Kd.C jU w A0 l0.length l0) (hc0 : l0.length ≤ c0) (hr1 : Kd.C jU w A1 l1.length l1) (hc1 : l1.length ≤ c1) (h : bT.f k l0 l1 = some r) :
  Calls Tryz.prog 79 #[.slice A0 l0.length c0, .slice A1 l1.length c1] w fun e w' => e = .returned (.bool r) ∧ Below w.heap.size w w' := by
 have a1V := Tryz.underlying126
 have jY := am_ hr0
 have oQ := am_ hc0
 clear hr0 hc0
 have HR1 := am_ hr1
 have MZ := am_ hc1
 clear hr1 hc1
 have HB := am_ (Below.refl w.heap.size w)
 have H : (if (l0.length : Int) = (l1.length : Int) then (bT.l0 k l0 l1 0) else (some false)) = some r := h
 clear h
 by_cases c3 : (l0.length : Int) = (l1.length : Int)
 ·rw [if_pos c3] at H
  have fC : ((l0.length : Int) == (l1.length : Int)) = true := beq_iff_eq.mpr c3; have lI : ((l0.length : Int) != (l1.length : Int)) = false := bne_eq_false_iff_eq.mpr c3; (have IC : (l0.length == l1.length) = true := by first | simpa using c3 | (simp at c3 ⊢; omega)); clear c3; have H' := am_ H; clear H
  go_enter Tryz.func79, Tryz.ntmps79
  go_wp2
  go_loopg [5] k (fun kq v5 w' => ∃ (aC : Int), v5 = .int .i64 aC ∧ Aside0 (bT.l0 kq l0 l1 aC = some r) ∧ Aside0 (kq ≤ k) ∧ Aside0 (Below w.heap.size w w'))
  case atStart => exact ⟨(0), rs_, H', ⟨Nat.le_refl _⟩, ⟨bb_⟩⟩
  case round =>
   clear H'; (try clear c1); (try clear p2); (try clear c3); (try clear fC); (try clear lI); (try clear IC); obtain ⟨aC, rfl, HA, jK, HB⟩ := hrel
   cases gk with
   | zero => exact absurd HA.out (by simp [bT.l0])
   | succ k1 =>
    have H := HA.out; clear HA; simp only [bT.l0] at H
    by_cases c4 : aC < (l0.length : Int)
    ·rw [if_pos c4] at H
     have iB := decide_eq_true c4; clear c4
     by_cases c5 : 0 ≤ aC
     ·rw [if_pos c5] at H
      have pV := decide_eq_true c5; clear c5
      by_cases c6 : aC < (l1.length : Int)
      ·rw [if_pos c6] at H
       have mY := decide_eq_true c6; clear c6; replace H := aBp H; obtain ⟨t173, ZI, H⟩ := H
       try dsimp only at H
       have A7 := am_ ZI; clear ZI; have gY := am_ H; clear H
       try go_wp2
       replace HB := am_ (aAm HB.out); (have bTK : 0 ≤ (aC : Int) := oa_); (have bTN : aC < (l0.length : Int) := oa_); obtain ⟨dAI, bTT, bUE, d59, a5S, a7W, aKO, aON⟩ := G9 jY.out aC bTK bTN; cases d59; obtain ⟨bNH, bND⟩ := aSr HB a5S a7W; have aRC := am_ aON; have bJ9 := am_ aKO; clear aON aKO; replace bTK := eq_true bTK; replace bTN := eq_true bTN; (have bSI : 0 ≤ (aC : Int) := oa_); (have bVU : aC < (l1.length : Int) := oa_); obtain ⟨dBK, bUS, bVV, d2W, a3B, a8C, aQ8, aOU⟩ := G9 HR1.out aC bSI bVU; cases d2W; obtain ⟨bH7, bKO⟩ := aSr HB a3B a8C; have aLF := am_ aOU; have bKV := am_ aQ8; clear aOU aQ8; replace bSI := eq_true bSI; replace bVU := eq_true bVU; (refine st_ 10 (hc_ ((hb_ HB a5S)) (hc_ ((hb_ HB a7W)) (hc_ ((hb_ HB a3B)) (hf_ ((hb_ HB a8C)))))) (fun hHeld => ?_); refine aAv bT.BF bT.pY (fun HT_ HW_ => ?_)); generalize wr.drew = w9 at HB aRC aLF bNH bND bH7 bKO hHeld ⊢
       iterate 3 (refine pl_ ?_)
       refine aBa 4 (bm 10 23) ?_; refine aBa 5 (bm 10 55) ?_; refine aBa 6 (bm 10 119) ?_; refine aCx 3 (tf 7 3) ?_; refine tl_ ?_; refine aCm (i := 8) (N := some 25) (tf 9 1) (h := fun K hK => ?_); refine gs_ Tryz.func102 #[.agg #[.slice bTT ((bI l0 aC).f0).length bUE, .int .i64 ((bI l0 aC).f1)], .agg #[.slice bUS ((bI l1 aC).f0).length bVV, .int .i64 ((bI l1 aC).f1)]] ?_; (with_reducible refine (mR.calls _ _ _ _ _ _ _ _ _ _ _ (cb_ aRC HB) bJ9.out (cb_ aLF HB) bKV.out A7.out).mono ?_); rintro e w10 ⟨rfl, hb⟩; refine ⟨_, rfl, ?_⟩; replace HB := bs_ hb; (try clear hb); refine hK.out _ _ (hc_ (hb_ HB a5S) (hc_ (hb_ HB a7W) (hc_ (hb_ HB a3B) (hf_ (hb_ HB a8C))))) (fun hHeld => ?_); clear hK K; refine nm_ ?_; refine aBa 9 (tf 10 0) ?_; have H := gY.out; clear gY
       by_cases c8 : t173 = true
       ·subst c8
        rw [if_pos rfl] at H; have H' := am_ H; clear H; refine dn_ ?_
        try go_wp2
        go_roundg k1
        case measure => have := jK.out; omega
        case rel => exact ⟨(wrap64 (aC + 1)), rs_, H', ⟨by have := jK.out; omega⟩, ⟨bb_⟩⟩
       ·replace c8 := Bool.eq_false_iff.mpr c8
        subst c8; replace H := aZf H; obtain rfl := Option.some.inj H; refine dn_ ?_
        try go_wp2
        go_ret
        exact ⟨er_, bb_⟩
      ·rw [if_neg c6] at H
       exact nn_ H
     ·rw [if_neg c5] at H
      exact nn_ H
    ·rw [if_neg c4] at H
     have iB := decide_eq_false c4; clear c4; obtain rfl := Option.some.inj H
     go_wp2
     go_ret
     exact ⟨er_, bb_⟩
 ·rw [if_neg c3] at H
  have fC : ((l0.length : Int) == (l1.length : Int)) = false := beq_eq_false_iff_ne.mpr c3; have lI : ((l0.length : Int) != (l1.length : Int)) = true := bne_iff_ne.mpr c3; (have IC : (l0.length == l1.length) = false := by first | simpa using c3 | (simp at c3 ⊢; omega)); obtain rfl := Option.some.inj H
  go_enter Tryz.func79, Tryz.ntmps79
  go_wp2
  go_ret
  exact ⟨er_, bb_⟩

def kV.f (k : Nat) (aA : Int) (bS : List S126) (aX : Int) (TF : List S126) : Option Bool := if aA = aX then ((bT.f k bS TF).bind fun b4Z => (if b4Z = true then (some true) else (some false))) else (some false)
theorem kV.calls (k : Nat) (aA : Int) (lW : Option Addr) (lS : Nat) (bS : List S126) (aX : Int) (aJ0 : Option Addr) (aIV : Nat) (TF : List S126) (r : Bool) (w : World) (qC : Kd.C jU w lW bS.length bS) (sN : bS.length ≤ lS) (bOX : Kd.C jU w aJ0 TF.length TF) (bQN : TF.length ≤ aIV) (h : kV.f k aA bS aX TF = some r) :
  Calls Tryz.prog 54 #[.agg #[.int .i64 aA, .slice lW bS.length lS], .agg #[.int .i64 aX, .slice aJ0 TF.length aIV]] w fun e w' => e = .returned (.bool r) ∧ Below w.heap.size w w' := by
 have NT := Tryz.underlying66
 have xG := am_ qC
 have JH := am_ sN
 clear qC sN
 have bPM := am_ bOX
 have bR2 := am_ bQN
 clear bOX bQN
 have HB := am_ (Below.refl w.heap.size w)
 have H : (if aA = aX then ((bT.f k bS TF).bind fun b4Z => (if b4Z = true then (some true) else (some false))) else (some false)) = some r := h
 clear h
 by_cases c3 : aA = aX
 ·rw [if_pos c3] at H
  have fC : (aA == aX) = true := beq_iff_eq.mpr c3; have lI : (aA != aX) = false := bne_eq_false_iff_eq.mpr c3; clear c3; replace H := aBp H; obtain ⟨b4Z, N9, H⟩ := H
  try dsimp only at H
  have A4 := am_ N9; clear N9
  by_cases c5 : b4Z = true
  ·subst c5
   rw [if_pos rfl] at H; obtain rfl := Option.some.inj H
   go_enter Tryz.func54, Tryz.ntmps54
   go_wp2_with (first | ((with_reducible refine aAc (N := 2) rfl ?_); refine bx_ 2 #[.int .i64 aA, .slice lW bS.length lS] 66 ?_; intro bQP hg w6 hbox hb; have qR := am_ (hbox); have bQT := gw_ hg; replace HB := bs_ hb; clear hb hbox hg) | ((with_reducible refine aAc (N := 3) rfl ?_); refine bx_ 3 #[.int .i64 aX, .slice aJ0 TF.length aIV] 66 ?_; intro bPI hg w7 hbox hb; have PX := am_ (hbox); have bOZ := gw_ hg; have EO := nl_ hg qR; have EB := ng_ hg qR; replace qR := aAt qR hb; replace HB := bs_ hb; clear hb hbox hg; have aJF := EO.out; have aJ2 := EB.out; obtain ⟨mX, nC, nH, nG⟩ := b2_ qR; obtain ⟨lN, lL, lM, lJ⟩ := b2_ PX) | ((with_reducible refine aAa (f := 79) rfl ?_); refine aBh (some 14) Tryz.func79 #[.slice lW bS.length lS, .slice aJ0 TF.length aIV] ?_; (with_reducible refine (bT.calls _ _ _ _ _ _ _ _ _ (cb_ xG HB) JH.out (cb_ bPM HB) bR2.out A4.out).mono ?_); rintro e jI ⟨rfl, hb⟩; refine ⟨_, rfl, ?_⟩; replace qR := aAt qR hb; replace PX := aAt PX hb; replace HB := bs_ hb; (try clear hb)))
   go_ret
   exact ⟨er_, bb_⟩
  ·replace c5 := Bool.eq_false_iff.mpr c5
   subst c5; replace H := aZf H; obtain rfl := Option.some.inj H
   go_enter Tryz.func54, Tryz.ntmps54
   go_wp2_with (first | ((with_reducible refine aAc (N := 2) rfl ?_); refine bx_ 2 #[.int .i64 aA, .slice lW bS.length lS] 66 ?_; intro bQP hg w12 hbox hb; have qR := am_ (hbox); have bQT := gw_ hg; replace HB := bs_ hb; clear hb hbox hg) | ((with_reducible refine aAc (N := 3) rfl ?_); refine bx_ 3 #[.int .i64 aX, .slice aJ0 TF.length aIV] 66 ?_; intro bPI hg ZO hbox hb; have PX := am_ (hbox); have bOZ := gw_ hg; have EO := nl_ hg qR; have EB := ng_ hg qR; replace qR := aAt qR hb; replace HB := bs_ hb; clear hb hbox hg; have b0H := EO.out; have b92 := EB.out; obtain ⟨pX, pU, pJ, pR⟩ := b2_ qR; obtain ⟨rH, rO, rE, rP⟩ := b2_ PX) | ((with_reducible refine aAa (f := 79) rfl ?_); refine aBh (some 14) Tryz.func79 #[.slice lW bS.length lS, .slice aJ0 TF.length aIV] ?_; (with_reducible refine (bT.calls _ _ _ _ _ _ _ _ _ (cb_ xG HB) JH.out (cb_ bPM HB) bR2.out A4.out).mono ?_); rintro e w17 ⟨rfl, hb⟩; refine ⟨_, rfl, ?_⟩; replace qR := aAt qR hb; replace PX := aAt PX hb; replace HB := bs_ hb; (try clear hb)))
   go_ret
   exact ⟨er_, bb_⟩
 ·rw [if_neg c3] at H
  have fC : (aA == aX) = false := beq_eq_false_iff_ne.mpr c3; have lI : (aA != aX) = true := bne_iff_ne.mpr c3; obtain rfl := Option.some.inj H
  go_enter Tryz.func54, Tryz.ntmps54
  go_wp2_with (first | ((with_reducible refine aAc (N := 2) rfl ?_); refine bx_ 2 #[.int .i64 aA, .slice lW bS.length lS] 66 ?_; intro bQP hg w18 hbox hb; have qR := am_ (hbox); have bQT := gw_ hg; replace HB := bs_ hb; clear hb hbox hg) | ((with_reducible refine aAc (N := 3) rfl ?_); refine bx_ 3 #[.int .i64 aX, .slice aJ0 TF.length aIV] 66 ?_; intro bPI hg w19 hbox hb; have PX := am_ (hbox); have bOZ := gw_ hg; have EO := nl_ hg qR; have EB := ng_ hg qR; replace qR := aAt qR hb; replace HB := bs_ hb; clear hb hbox hg; have cEN := EO.out; have c6N := EB.out; obtain ⟨uD, uC, tZ, sU⟩ := b2_ qR; obtain ⟨SA, QX, R4, R9⟩ := b2_ PX))
  go_ret
  exact ⟨er_, bb_⟩

def uO.f (k : Nat) (aA : ByteArray) (aD : Int) (kK : List S126) (aX : ByteArray) (bD : Int) (TU : List S126) : Option Bool := if aA.toList = aX.toList then ((kV.f k aD kK bD TU).bind fun b6E => (if b6E = true then (some true) else (some false))) else (some false)
theorem uO.calls (k : Nat) (aA : ByteArray) (aD : Int) (wQ : Option Addr) (wP : Nat) (kK : List S126) (aX : ByteArray) (bD : Int) (aJY : Option Addr) (aK3 : Nat) (TU : List S126) (r : Bool) (w : World) (JX : Kd.C jU w wQ kK.length kK) (JE : kK.length ≤ wP) (bOT : Kd.C jU w aJY TU.length TU) (bR5 : TU.length ≤ aK3) (h : uO.f k aA aD kK aX bD TU = some r) :
  Calls Tryz.prog 28 #[.agg #[.string aA, .int .i64 aD, .slice wQ kK.length wP], .agg #[.string aX, .int .i64 bD, .slice aJY TU.length aK3]] w fun e w' => e = .returned (.bool r) ∧ Below w.heap.size w w' := by
 obtain ⟨aJ8, NT⟩ := cLI
 have PS := am_ JX
 have NY := am_ JE
 clear JX JE
 have bPU := am_ bOT
 have bOM := am_ bR5
 clear bOT bR5
 have HB := am_ (Below.refl w.heap.size w)
 have H : (if aA.toList = aX.toList then ((kV.f k aD kK bD TU).bind fun b6E => (if b6E = true then (some true) else (some false))) else (some false)) = some r := h
 clear h
 by_cases c3 : aA.toList = aX.toList
 ·rw [if_pos c3] at H
  have fC : (aA.toList == aX.toList) = true := beq_iff_eq.mpr c3; have lI : (aA.toList != aX.toList) = false := bne_eq_false_iff_eq.mpr c3; clear c3; replace H := aBp H; obtain ⟨b6E, N9, H⟩ := H
  try dsimp only at H
  have A4 := am_ N9; clear N9
  by_cases c5 : b6E = true
  ·subst c5
   rw [if_pos rfl] at H; obtain rfl := Option.some.inj H
   go_enter Tryz.func28, Tryz.ntmps28
   go_wp2_with (first | ((with_reducible refine aAc (N := 2) rfl ?_); refine bx_ 2 #[.string aA, .int .i64 aD, .slice wQ kK.length wP] 68 ?_; intro bQB hg w6 hbox hb; have qU := am_ (hbox); have bPZ := gw_ hg; replace HB := bs_ hb; clear hb hbox hg) | ((with_reducible refine aAc (N := 3) rfl ?_); refine bx_ 3 #[.string aX, .int .i64 bD, .slice aJY TU.length aK3] 68 ?_; intro bQI hg w7 hbox hb; have Q8 := am_ (hbox); have bP1 := gw_ hg; have ED := nl_ hg qU; have EX := ng_ hg qU; replace qU := aAt qU hb; replace HB := bs_ hb; clear hb hbox hg; have aJF := ED.out; have aJ2 := EX.out; obtain ⟨mX, nC, xB, nH, nG, x9⟩ := b3_ qU; obtain ⟨lN, lL, nI, lM, lJ, nD⟩ := b3_ Q8) | ((with_reducible refine aAa (f := 54) rfl ?_); refine aBh (some 14) Tryz.func54 #[.agg #[.int .i64 aD, .slice wQ kK.length wP], .agg #[.int .i64 bD, .slice aJY TU.length aK3]] ?_; (with_reducible refine (kV.calls _ _ _ _ _ _ _ _ _ _ _ (cb_ PS HB) NY.out (cb_ bPU HB) bOM.out A4.out).mono ?_); rintro e jI ⟨rfl, hb⟩; refine ⟨_, rfl, ?_⟩; replace qU := aAt qU hb; replace Q8 := aAt Q8 hb; replace HB := bs_ hb; (try clear hb)))
   go_ret
   exact ⟨er_, bb_⟩
  ·replace c5 := Bool.eq_false_iff.mpr c5
   subst c5; replace H := aZf H; obtain rfl := Option.some.inj H
   go_enter Tryz.func28, Tryz.ntmps28
   go_wp2_with (first | ((with_reducible refine aAc (N := 2) rfl ?_); refine bx_ 2 #[.string aA, .int .i64 aD, .slice wQ kK.length wP] 68 ?_; intro bQB hg w12 hbox hb; have qU := am_ (hbox); have bPZ := gw_ hg; replace HB := bs_ hb; clear hb hbox hg) | ((with_reducible refine aAc (N := 3) rfl ?_); refine bx_ 3 #[.string aX, .int .i64 bD, .slice aJY TU.length aK3] 68 ?_; intro bQI hg ZO hbox hb; have Q8 := am_ (hbox); have bP1 := gw_ hg; have ED := nl_ hg qU; have EX := ng_ hg qU; replace qU := aAt qU hb; replace HB := bs_ hb; clear hb hbox hg; have b0H := ED.out; have b92 := EX.out; obtain ⟨pX, pU, rQ, pJ, pR, rR⟩ := b3_ qU; obtain ⟨rH, rO, tQ, rE, rP, sP⟩ := b3_ Q8) | ((with_reducible refine aAa (f := 54) rfl ?_); refine aBh (some 14) Tryz.func54 #[.agg #[.int .i64 aD, .slice wQ kK.length wP], .agg #[.int .i64 bD, .slice aJY TU.length aK3]] ?_; (with_reducible refine (kV.calls _ _ _ _ _ _ _ _ _ _ _ (cb_ PS HB) NY.out (cb_ bPU HB) bOM.out A4.out).mono ?_); rintro e w17 ⟨rfl, hb⟩; refine ⟨_, rfl, ?_⟩; replace qU := aAt qU hb; replace Q8 := aAt Q8 hb; replace HB := bs_ hb; (try clear hb)))
   go_ret
   exact ⟨er_, bb_⟩
 ·rw [if_neg c3] at H
  have fC : (aA.toList == aX.toList) = false := beq_eq_false_iff_ne.mpr c3; have lI : (aA.toList != aX.toList) = true := bne_iff_ne.mpr c3; obtain rfl := Option.some.inj H
  go_enter Tryz.func28, Tryz.ntmps28
  go_wp2_with (first | ((with_reducible refine aAc (N := 2) rfl ?_); refine bx_ 2 #[.string aA, .int .i64 aD, .slice wQ kK.length wP] 68 ?_; intro bQB hg w18 hbox hb; have qU := am_ (hbox); have bPZ := gw_ hg; replace HB := bs_ hb; clear hb hbox hg) | ((with_reducible refine aAc (N := 3) rfl ?_); refine bx_ 3 #[.string aX, .int .i64 bD, .slice aJY TU.length aK3] 68 ?_; intro bQI hg w19 hbox hb; have Q8 := am_ (hbox); have bP1 := gw_ hg; have ED := nl_ hg qU; have EX := ng_ hg qU; replace qU := aAt qU hb; replace HB := bs_ hb; clear hb hbox hg; have cEN := ED.out; have c6N := EX.out; obtain ⟨uD, uC, y7, tZ, sU, yA⟩ := b3_ qU; obtain ⟨SA, QX, VJ, R4, R9, WE⟩ := b3_ Q8))
  go_ret
  exact ⟨er_, bb_⟩
end Go.Proofs.YtnobhkmpkichdaaGreat.PFnExactViewsOk
