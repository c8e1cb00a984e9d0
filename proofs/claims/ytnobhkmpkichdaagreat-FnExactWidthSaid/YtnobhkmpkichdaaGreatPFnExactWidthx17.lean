-- WRITTEN BY xprint.py, a program of this session over the kit's printer: by nobody's hand
-- PRESSED4 -- PRESSED TWICE3 -- PRESSED TWICE
import Derived.Test.YtnobhkmpkichdaaGreatPress
import Derived.Test.YtnobhkmpkichdaaGreatPress3
import Derived.Test.YtnobhkmpkichdaaGreatPFnExactWidthx0
import Derived.Test.YtnobhkmpkichdaaGreatPFnExactWidthx16
namespace Go.Proofs.YtnobhkmpkichdaaGreat.PFnExactWidth
set_option maxRecDepth 100000
open Go.RowKit Go.Proofs.YtnobhkmpkichdaaGreatW.PrintWords Go.Proofs.YtnobhkmpkichdaaGreatW.PrintLast Go.Proofs.YtnobhkmpkichdaaGreatW.PrintMore
attribute [local go_sem] max2_int min2_int max_two min_two max_three min_three max_four min_four
set_option linter.unusedVariables false
set_option linter.unusedSimpArgs false

/-! ### impl_width: function 27 -/
def impl_width.f : Nat → (List (S68)) → Int → ByteArray → Int → Int → Int → Int → ByteArray → ByteArray → (List (S39)) → (List (S39)) → Int → (List (S42)) → Int → Option (Int)
 | 0, _, _, _, _, _, _, _, _, _, _, _, _, _, _ => none
 | k + 1, l0, bH, bL, bP, bW, bV, bX, dE, dD, l1_8, l1_9, bS, l1_11, a2 => (impl_Plan_widthOf.f (impl_width.f k) k bH bL bP bW bV bX dE dD l1_8 l1_9 bS l1_11 l0 a2).bind fun ZN => (if ZN.2 = true then (if ZN.1 > 12 then (some (-1)) else (if a2 > 8 then (some (-1)) else (some ZN.1))) else (some (-1)))
set_option maxHeartbeats 8000000 in
theorem impl_width.calls : ∀ (k : Nat) (A0 : Option Addr) (c0 : Nat) (l0 : List (S68)) (bH : Int) (bL : ByteArray) (bP : Int) (bW : Int) (bV : Int) (bX : Int) (dE : ByteArray) (dD : ByteArray) (A1_8 : Option Addr) (c1_8 : Nat) (l1_8 : List (S39)) (A1_9 : Option Addr) (c1_9 : Nat) (l1_9 : List (S39)) (bS : Int) (A1_11 : Option Addr) (c1_11 : Nat) (l1_11 : List (S42)) (a2 : Int) (r : Int) (w : World) (hr0 : Kd.C FU w A0 l0.length l0) (hc0 : l0.length ≤ c0) (jQ : Kd.C gL w A1_8 l1_8.length l1_8) (jP : l1_8.length ≤ c1_8) (jM : Kd.C gL w A1_9 l1_9.length l1_9) (jL : l1_9.length ≤ c1_9) (gN : Kd.C qD w A1_11 l1_11.length l1_11) (gM : l1_11.length ≤ c1_11) (h : impl_width.f k l0 bH bL bP bW bV bX dE dD l1_8 l1_9 bS l1_11 a2 = some r),
  Calls Tryz.prog 27 #[.slice A0 l0.length c0, .agg #[.int .i64 bH, .string bL, .int .i64 bP, .int .i64 bW, .int .i64 bV, .int .i64 bX, .string dE, .string dD, .slice A1_8 l1_8.length c1_8, .slice A1_9 l1_9.length c1_9, .int .i64 bS, .slice A1_11 l1_11.length c1_11], .int .i64 a2] w fun e w' => e = .returned (.int .i64 r) ∧ Below w.heap.size w w' := by
 intro k
 induction k with
 | zero =>
  intro A0 c0 l0 bH bL bP bW bV bX dE dD A1_8 c1_8 l1_8 A1_9 c1_9 l1_9 bS A1_11 c1_11 l1_11 a2 r w hr0 hc0 jQ jP jM jL gN gM h; exact absurd h (by simp [impl_width.f])
 | succ k ih_ =>
  intro A0 c0 l0 bH bL bP bW bV bX dE dD A1_8 c1_8 l1_8 A1_9 c1_9 l1_9 bS A1_11 c1_11 l1_11 a2 r w hr0 hc0 jQ jP jM jL gN gM h; have UU := Tryz.underlying42; have jE := am_ hr0; have wH := am_ hc0; clear hr0 hc0; have iX := am_ jQ; have iW := am_ jP; clear jQ jP; have j4 := am_ jM; have j6 := am_ jL; clear jM jL; have iV := am_ gN; have jJ := am_ gM; clear gN gM; have HB := am_ (Below.refl w.heap.size w); (have H : ((impl_Plan_widthOf.f (impl_width.f k) k bH bL bP bW bV bX dE dD l1_8 l1_9 bS l1_11 l0 a2).bind fun ZN => (if ZN.2 = true then (if ZN.1 > 12 then (some (-1)) else (if a2 > 8 then (some (-1)) else (some ZN.1))) else (some (-1)))) = some r := h); clear h; replace H := bsi_ H; obtain ⟨⟨aRA, cXE⟩, A40, H⟩ := H
  try dsimp only at H
  have A4 := am_ A40; clear A40
  by_cases c5 : cXE = true
  ·subst c5
   rw [if_pos rfl] at H
   by_cases c6 : aRA > 12
   ·rw [if_pos c6] at H
    have kN := decide_eq_true c6; clear c6; obtain rfl := Option.some.inj H
    go_enter Tryz.func27, Tryz.ntmps27
    go_wp2_with (first | ((with_reducible refine gate_dst (N := 4) rfl ?_); refine bx_ 4 #[.int .i64 bH, .string bL, .int .i64 bP, .int .i64 bW, .int .i64 bV, .int .i64 bX, .string dE, .string dD, .slice A1_8 l1_8.length c1_8, .slice A1_9 l1_9.length c1_9, .int .i64 bS, .slice A1_11 l1_11.length c1_11] 42 ?_; intro aT4 hg w7 hbox hb; have wB := am_ (hbox); have aRC := gw_ hg; have aQS := gw_ hg; replace HB := bs_ hb; clear hb hbox hg; obtain ⟨nH, nD, rC, wC, wD, vU, vW, U4, U8, TG, I8, IX, nC, nG, rA, vQ, wF, vP, vY, TP, TJ, TZ, IQ, IM⟩ := b12_ wB) | ((with_reducible refine gate_callee (f := 53) rfl ?_); refine gsL_ (some 13) Tryz.func53 #[.agg #[.int .i64 bH, .string bL, .int .i64 bP, .int .i64 bW, .int .i64 bV, .int .i64 bX, .string dE, .string dD, .slice A1_8 l1_8.length c1_8, .slice A1_9 l1_9.length c1_9, .int .i64 bS, .slice A1_11 l1_11.length c1_11], .slice A0 l0.length c0, .int .i64 a2] ?_; (with_reducible refine (impl_Plan_widthOf.calls (impl_width.f k) ih_ k bH bL bP bW bV bX dE dD _ _ l1_8 _ _ l1_9 bS _ _ l1_11 _ _ l0 a2 aRA true _ ?aK ?aT ?bB ?bC ?d9 ?cZ ?dY ?dW A4.out).mono ?_); (case aK => exact ck_ (Kd.C_below iX.out HB.out)); (case aT => exact iW.out); (case bB => exact ck_ (Kd.C_below j4.out HB.out)); (case bC => exact j6.out); (case d9 => exact ck_ (Kd.C_below iV.out HB.out)); (case cZ => exact jJ.out); (case dY => exact ck_ (Kd.C_below jE.out HB.out)); (case dW => exact wH.out); rintro e w9 ⟨rfl, hb⟩; refine ⟨_, rfl, ?_⟩; replace wB := bkb_ wB hb; replace HB := bs_ hb; (try clear hb)))
    go_ret
    exact ⟨er_, bb_⟩
   ·rw [if_neg c6] at H
    have kN := decide_eq_false c6; clear c6
    by_cases c10 : a2 > 8
    ·rw [if_pos c10] at H
     have b80 := decide_eq_true c10; clear c10; obtain rfl := Option.some.inj H
     go_enter Tryz.func27, Tryz.ntmps27
     go_wp2_with (first | ((with_reducible refine gate_dst (N := 4) rfl ?_); refine bx_ 4 #[.int .i64 bH, .string bL, .int .i64 bP, .int .i64 bW, .int .i64 bV, .int .i64 bX, .string dE, .string dD, .slice A1_8 l1_8.length c1_8, .slice A1_9 l1_9.length c1_9, .int .i64 bS, .slice A1_11 l1_11.length c1_11] 42 ?_; intro aT4 hg iC hbox hb; have wB := am_ (hbox); have aRC := gw_ hg; have aQS := gw_ hg; replace HB := bs_ hb; clear hb hbox hg; obtain ⟨oW, nT, sV, CQ, AO, zO, zX, aXT, b1Q, aXC, aQU, aQZ, pG, oM, uD, CS, BP, CY, BB, b46, aZL, aY9, aW0, aV8⟩ := b12_ wB) | ((with_reducible refine gate_callee (f := 53) rfl ?_); refine gsL_ (some 13) Tryz.func53 #[.agg #[.int .i64 bH, .string bL, .int .i64 bP, .int .i64 bW, .int .i64 bV, .int .i64 bX, .string dE, .string dD, .slice A1_8 l1_8.length c1_8, .slice A1_9 l1_9.length c1_9, .int .i64 bS, .slice A1_11 l1_11.length c1_11], .slice A0 l0.length c0, .int .i64 a2] ?_; (with_reducible refine (impl_Plan_widthOf.calls (impl_width.f k) ih_ k bH bL bP bW bV bX dE dD _ _ l1_8 _ _ l1_9 bS _ _ l1_11 _ _ l0 a2 aRA true _ ?aK ?aT ?bB ?bC ?d9 ?cZ ?dY ?dW A4.out).mono ?_); (case aK => exact ck_ (Kd.C_below iX.out HB.out)); (case aT => exact iW.out); (case bB => exact ck_ (Kd.C_below j4.out HB.out)); (case bC => exact j6.out); (case d9 => exact ck_ (Kd.C_below iV.out HB.out)); (case cZ => exact jJ.out); (case dY => exact ck_ (Kd.C_below jE.out HB.out)); (case dW => exact wH.out); rintro e w13 ⟨rfl, hb⟩; refine ⟨_, rfl, ?_⟩; replace wB := bkb_ wB hb; replace HB := bs_ hb; (try clear hb)))
     go_ret
     exact ⟨er_, bb_⟩
    ·rw [if_neg c10] at H
     have b80 := decide_eq_false c10; clear c10; obtain rfl := Option.some.inj H
     go_enter Tryz.func27, Tryz.ntmps27
     go_wp2_with (first | ((with_reducible refine gate_dst (N := 4) rfl ?_); refine bx_ 4 #[.int .i64 bH, .string bL, .int .i64 bP, .int .i64 bW, .int .i64 bV, .int .i64 bX, .string dE, .string dD, .slice A1_8 l1_8.length c1_8, .slice A1_9 l1_9.length c1_9, .int .i64 bS, .slice A1_11 l1_11.length c1_11] 42 ?_; intro aT4 hg w14 hbox hb; have wB := am_ (hbox); have aRC := gw_ hg; have aQS := gw_ hg; replace HB := bs_ hb; clear hb hbox hg; obtain ⟨mV, mI, oP, CG, BI, BX, zR, aMW, aGR, aL1, aAY, aB6, mK, mW, oQ, CW, C8, BS, BZ, aMD, aMZ, aGO, aBW, aA0⟩ := b12_ wB) | ((with_reducible refine gate_callee (f := 53) rfl ?_); refine gsL_ (some 13) Tryz.func53 #[.agg #[.int .i64 bH, .string bL, .int .i64 bP, .int .i64 bW, .int .i64 bV, .int .i64 bX, .string dE, .string dD, .slice A1_8 l1_8.length c1_8, .slice A1_9 l1_9.length c1_9, .int .i64 bS, .slice A1_11 l1_11.length c1_11], .slice A0 l0.length c0, .int .i64 a2] ?_; (with_reducible refine (impl_Plan_widthOf.calls (impl_width.f k) ih_ k bH bL bP bW bV bX dE dD _ _ l1_8 _ _ l1_9 bS _ _ l1_11 _ _ l0 a2 aRA true _ ?aK ?aT ?bB ?bC ?d9 ?cZ ?dY ?dW A4.out).mono ?_); (case aK => exact ck_ (Kd.C_below iX.out HB.out)); (case aT => exact iW.out); (case bB => exact ck_ (Kd.C_below j4.out HB.out)); (case bC => exact j6.out); (case d9 => exact ck_ (Kd.C_below iV.out HB.out)); (case cZ => exact jJ.out); (case dY => exact ck_ (Kd.C_below jE.out HB.out)); (case dW => exact wH.out); rintro e w16 ⟨rfl, hb⟩; refine ⟨_, rfl, ?_⟩; replace wB := bkb_ wB hb; replace HB := bs_ hb; (try clear hb)))
     go_ret
     exact ⟨er_, bb_⟩
  ·replace c5 := Bool.eq_false_iff.mpr c5
   subst c5; (rw [if_neg (show ¬ (false = true) by decide)] at H); obtain rfl := Option.some.inj H
   go_enter Tryz.func27, Tryz.ntmps27
   go_wp2_with (first | ((with_reducible refine gate_dst (N := 4) rfl ?_); refine bx_ 4 #[.int .i64 bH, .string bL, .int .i64 bP, .int .i64 bW, .int .i64 bV, .int .i64 bX, .string dE, .string dD, .slice A1_8 l1_8.length c1_8, .slice A1_9 l1_9.length c1_9, .int .i64 bS, .slice A1_11 l1_11.length c1_11] 42 ?_; intro aT4 hg w17 hbox hb; have wB := am_ (hbox); have aRC := gw_ hg; have aQS := gw_ hg; replace HB := bs_ hb; clear hb hbox hg; obtain ⟨rQ, sU, wL, zU, BF, AQ, CJ, a6H, a7K, a2Q, YG, YP, sD, sG, xQ, BQ, zY, CO, D6, a2I, a6B, a4T, XC, ZA⟩ := b12_ wB) | ((with_reducible refine gate_callee (f := 53) rfl ?_); refine gsL_ (some 13) Tryz.func53 #[.agg #[.int .i64 bH, .string bL, .int .i64 bP, .int .i64 bW, .int .i64 bV, .int .i64 bX, .string dE, .string dD, .slice A1_8 l1_8.length c1_8, .slice A1_9 l1_9.length c1_9, .int .i64 bS, .slice A1_11 l1_11.length c1_11], .slice A0 l0.length c0, .int .i64 a2] ?_; (with_reducible refine (impl_Plan_widthOf.calls (impl_width.f k) ih_ k bH bL bP bW bV bX dE dD _ _ l1_8 _ _ l1_9 bS _ _ l1_11 _ _ l0 a2 aRA false _ ?aK ?aT ?bB ?bC ?d9 ?cZ ?dY ?dW A4.out).mono ?_); (case aK => exact ck_ (Kd.C_below iX.out HB.out)); (case aT => exact iW.out); (case bB => exact ck_ (Kd.C_below j4.out HB.out)); (case bC => exact j6.out); (case d9 => exact ck_ (Kd.C_below iV.out HB.out)); (case cZ => exact jJ.out); (case dY => exact ck_ (Kd.C_below jE.out HB.out)); (case dW => exact wH.out); rintro e w19 ⟨rfl, hb⟩; refine ⟨_, rfl, ?_⟩; replace wB := bkb_ wB hb; replace HB := bs_ hb; (try clear hb)))
   go_ret
   exact ⟨er_, bb_⟩

/-! ### impl_Width: function 10 -/
def impl_Width.f (k : Nat) (l0 : List (S68)) (bH : Int) (bL : ByteArray) (bP : Int) (bW : Int) (bV : Int) (bX : Int) (dE : ByteArray) (dD : ByteArray) (l1_8 : List (S39)) (l1_9 : List (S39)) (bS : Int) (l1_11 : List (S42)) : Option (Int) := (impl_width.f k l0 bH bL bP bW bV bX dE dD l1_8 l1_9 bS l1_11 0).bind fun aUH => (some aUH)
set_option maxHeartbeats 8000000 in
theorem impl_Width.calls (k : Nat) (A0 : Option Addr) (c0 : Nat) (l0 : List (S68)) (bH : Int) (bL : ByteArray) (bP : Int) (bW : Int) (bV : Int) (bX : Int) (dE : ByteArray) (dD : ByteArray) (A1_8 : Option Addr) (c1_8 : Nat) (l1_8 : List (S39)) (A1_9 : Option Addr) (c1_9 : Nat) (l1_9 : List (S39)) (bS : Int) (A1_11 : Option Addr) (c1_11 : Nat) (l1_11 : List (S42)) (r : Int) (w : World) (hr0 : Kd.C FU w A0 l0.length l0) (hc0 : l0.length ≤ c0) (jQ : Kd.C gL w A1_8 l1_8.length l1_8) (jP : l1_8.length ≤ c1_8) (jM : Kd.C gL w A1_9 l1_9.length l1_9) (jL : l1_9.length ≤ c1_9) (gN : Kd.C qD w A1_11 l1_11.length l1_11) (gM : l1_11.length ≤ c1_11) (h : impl_Width.f k l0 bH bL bP bW bV bX dE dD l1_8 l1_9 bS l1_11 = some r) :
  Calls Tryz.prog 10 #[.slice A0 l0.length c0, .agg #[.int .i64 bH, .string bL, .int .i64 bP, .int .i64 bW, .int .i64 bV, .int .i64 bX, .string dE, .string dD, .slice A1_8 l1_8.length c1_8, .slice A1_9 l1_9.length c1_9, .int .i64 bS, .slice A1_11 l1_11.length c1_11]] w fun e w' => e = .returned (.int .i64 r) ∧ Below w.heap.size w w' := by
 have UU := Tryz.underlying42
 have jE := am_ hr0
 have wH := am_ hc0
 clear hr0 hc0
 have iX := am_ jQ
 have iW := am_ jP
 clear jQ jP
 have j4 := am_ jM
 have j6 := am_ jL
 clear jM jL
 have iV := am_ gN
 have jJ := am_ gM
 clear gN gM
 have HB := am_ (Below.refl w.heap.size w)
 have H : ((impl_width.f k l0 bH bL bP bW bV bX dE dD l1_8 l1_9 bS l1_11 0).bind fun aUH => (some aUH)) = some r := h
 clear h
 replace H := bsi_ H
 obtain ⟨aUH, E8, H⟩ := H
 try dsimp only at H
 have A3 := am_ E8
 clear E8
 obtain rfl := Option.some.inj H
 go_enter Tryz.func10, Tryz.ntmps10
 go_wp2_with (first | ((with_reducible refine gate_dst (N := 3) rfl ?_); refine bx_ 3 #[.int .i64 bH, .string bL, .int .i64 bP, .int .i64 bW, .int .i64 bV, .int .i64 bX, .string dE, .string dD, .slice A1_8 l1_8.length c1_8, .slice A1_9 l1_9.length c1_9, .int .i64 bS, .slice A1_11 l1_11.length c1_11] 42 ?_; intro cY3 hg w4 hbox hb; have aTQ := am_ (hbox); have cZO := gw_ hg; have d10 := gw_ hg; replace HB := bs_ hb; clear hb hbox hg; obtain ⟨TI, U2, TY, aUB, aTI, aTY, aSP, aTR, aSW, aQY, aIX, aHT, TT, TV, U1, aU0, aTA, aSM, aS1, aW4, aS6, aR2, aJL, aN2⟩ := b12_ aTQ) | ((with_reducible refine gate_callee (f := 27) rfl ?_); refine gsL_ (some 7) Tryz.func27 #[.slice A0 l0.length c0, .agg #[.int .i64 bH, .string bL, .int .i64 bP, .int .i64 bW, .int .i64 bV, .int .i64 bX, .string dE, .string dD, .slice A1_8 l1_8.length c1_8, .slice A1_9 l1_9.length c1_9, .int .i64 bS, .slice A1_11 l1_11.length c1_11], .int .i64 0] ?_; (with_reducible refine (impl_width.calls k _ _ l0 bH bL bP bW bV bX dE dD _ _ l1_8 _ _ l1_9 bS _ _ l1_11 0 aUH _ ?aK ?aT ?bB ?bC ?d9 ?cZ ?dY ?dW A3.out).mono ?_); (case aK => exact ck_ (Kd.C_below jE.out HB.out)); (case aT => exact wH.out); (case bB => exact ck_ (Kd.C_below iX.out HB.out)); (case bC => exact iW.out); (case d9 => exact ck_ (Kd.C_below j4.out HB.out)); (case cZ => exact j6.out); (case dY => exact ck_ (Kd.C_below iV.out HB.out)); (case dW => exact jJ.out); rintro e w6 ⟨rfl, hb⟩; refine ⟨_, rfl, ?_⟩; replace aTQ := bkb_ aTQ hb; replace HB := bs_ hb; (try clear hb)))
 go_ret
 exact ⟨er_, bb_⟩

/-! ### laws_eqValue: function 55 -/
def laws_eqValue.f (aD : Int) (aI : Int) (aJ : ByteArray) (bH : Int) (bL : Int) (bP : ByteArray) : Option (Bool) := if aD = bH then (if aI = bL then (if aJ.toList = bP.toList then (some true) else (some false)) else (some false)) else (some false)
set_option maxHeartbeats 8000000 in
theorem laws_eqValue.calls (aD : Int) (aI : Int) (aJ : ByteArray) (bH : Int) (bL : Int) (bP : ByteArray) (r : Bool) (w : World) (h : laws_eqValue.f aD aI aJ bH bL bP = some r) :
  Calls Tryz.prog 55 #[.agg #[.int .i64 aD, .int .i64 aI, .string aJ], .agg #[.int .i64 bH, .int .i64 bL, .string bP]] w fun e w' => e = .returned (.bool r) ∧ Below w.heap.size w w' := by
 have XJ := Tryz.underlying36
 have HB := am_ (Below.refl w.heap.size w)
 have H : (if aD = bH then (if aI = bL then (if aJ.toList = bP.toList then (some true) else (some false)) else (some false)) else (some false)) = some r := h
 clear h
 by_cases c3 : aD = bH
 ·rw [if_pos c3] at H
  have fB : (aD == bH) = true := beq_iff_eq.mpr c3; have jG : (aD != bH) = false := bne_eq_false_iff_eq.mpr c3; clear c3
  by_cases c4 : aI = bL
  ·rw [if_pos c4] at H
   have gB : (aI == bL) = true := beq_iff_eq.mpr c4; have a0F : (aI != bL) = false := bne_eq_false_iff_eq.mpr c4; clear c4
   by_cases c5 : aJ.toList = bP.toList
   ·rw [if_pos c5] at H
    have pV : (aJ.toList == bP.toList) = true := beq_iff_eq.mpr c5; have TB : (aJ.toList != bP.toList) = false := bne_eq_false_iff_eq.mpr c5; clear c5; obtain rfl := Option.some.inj H
    go_enter Tryz.func55, Tryz.ntmps55
    go_wp2_with (first | ((with_reducible refine gate_dst (N := 2) rfl ?_); refine bx_ 2 #[.int .i64 aD, .int .i64 aI, .string aJ] 36 ?_; intro aUI hg w6 hbox hb; have kP := am_ (hbox); have aQV := gw_ hg; have aQF := gw_ hg; replace HB := bs_ hb; clear hb hbox hg) | ((with_reducible refine gate_dst (N := 3) rfl ?_); refine bx_ 3 #[.int .i64 bH, .int .i64 bL, .string bP] 36 ?_; intro aTJ hg w7 hbox hb; have ZY := am_ (hbox); have aSH := gw_ hg; have aSC := gw_ hg; have q9 := nl_ hg kP; have pX := ng_ hg kP; replace kP := bkb_ kP hb; replace HB := bs_ hb; clear hb hbox hg; have aOF := q9.out; have aP1 := pX.out; obtain ⟨nW, nV, yM, nR, oL, yL⟩ := b3_ kP; obtain ⟨iM, iE, jW, iJ, iN, kF⟩ := b3_ ZY))
    go_ret
    exact ⟨er_, bb_⟩
   ·rw [if_neg c5] at H
    have pV : (aJ.toList == bP.toList) = false := beq_eq_false_iff_ne.mpr c5; have TB : (aJ.toList != bP.toList) = true := bne_iff_ne.mpr c5; obtain rfl := Option.some.inj H
    go_enter Tryz.func55, Tryz.ntmps55
    go_wp2_with (first | ((with_reducible refine gate_dst (N := 2) rfl ?_); refine bx_ 2 #[.int .i64 aD, .int .i64 aI, .string aJ] 36 ?_; intro aUI hg iC hbox hb; have kP := am_ (hbox); have aQV := gw_ hg; have aQF := gw_ hg; replace HB := bs_ hb; clear hb hbox hg) | ((with_reducible refine gate_dst (N := 3) rfl ?_); refine bx_ 3 #[.int .i64 bH, .int .i64 bL, .string bP] 36 ?_; intro aTJ hg w12 hbox hb; have ZY := am_ (hbox); have aSH := gw_ hg; have aSC := gw_ hg; have q9 := nl_ hg kP; have pX := ng_ hg kP; replace kP := bkb_ kP hb; replace HB := bs_ hb; clear hb hbox hg; have d0T := q9.out; have cYT := pX.out; obtain ⟨nY, oK, sQ, p9, nU, vJ⟩ := b3_ kP; obtain ⟨mV, mI, oP, mK, mW, oQ⟩ := b3_ ZY))
    go_ret
    exact ⟨er_, bb_⟩
  ·rw [if_neg c4] at H
   have gB : (aI == bL) = false := beq_eq_false_iff_ne.mpr c4; have a0F : (aI != bL) = true := bne_iff_ne.mpr c4; obtain rfl := Option.some.inj H
   go_enter Tryz.func55, Tryz.ntmps55
   go_wp2_with (first | ((with_reducible refine gate_dst (N := 2) rfl ?_); refine bx_ 2 #[.int .i64 aD, .int .i64 aI, .string aJ] 36 ?_; intro aUI hg w16 hbox hb; have kP := am_ (hbox); have aQV := gw_ hg; have aQF := gw_ hg; replace HB := bs_ hb; clear hb hbox hg) | ((with_reducible refine gate_dst (N := 3) rfl ?_); refine bx_ 3 #[.int .i64 bH, .int .i64 bL, .string bP] 36 ?_; intro aTJ hg w17 hbox hb; have ZY := am_ (hbox); have aSH := gw_ hg; have aSC := gw_ hg; have q9 := nl_ hg kP; have pX := ng_ hg kP; replace kP := bkb_ kP hb; replace HB := bs_ hb; clear hb hbox hg; have bWX := q9.out; have cBA := pX.out; obtain ⟨y7, wZ, xZ, wV, wK, xN⟩ := b3_ kP; obtain ⟨xC, xB, D5, wM, wY, zW⟩ := b3_ ZY))
   go_ret
   exact ⟨er_, bb_⟩
 ·rw [if_neg c3] at H
  have fB : (aD == bH) = false := beq_eq_false_iff_ne.mpr c3; have jG : (aD != bH) = true := bne_iff_ne.mpr c3; obtain rfl := Option.some.inj H
  go_enter Tryz.func55, Tryz.ntmps55
  go_wp2_with (first | ((with_reducible refine gate_dst (N := 2) rfl ?_); refine bx_ 2 #[.int .i64 aD, .int .i64 aI, .string aJ] 36 ?_; intro aUI hg w21 hbox hb; have kP := am_ (hbox); have aQV := gw_ hg; have aQF := gw_ hg; replace HB := bs_ hb; clear hb hbox hg) | ((with_reducible refine gate_dst (N := 3) rfl ?_); refine bx_ 3 #[.int .i64 bH, .int .i64 bL, .string bP] 36 ?_; intro aTJ hg w22 hbox hb; have ZY := am_ (hbox); have aSH := gw_ hg; have aSC := gw_ hg; have q9 := nl_ hg kP; have pX := ng_ hg kP; replace kP := bkb_ kP hb; replace HB := bs_ hb; clear hb hbox hg; have d1G := q9.out; have cYE := pX.out; obtain ⟨VJ, V3, VL, V6, VC, VG⟩ := b3_ kP; obtain ⟨mU, mX, pQ, mP, mR, oJ⟩ := b3_ ZY))
  go_ret
  exact ⟨er_, bb_⟩

/-! ### laws_eqValueS: function 123 -/
def laws_eqValueS.l0 : Nat → List (S36) → List (S36) → Int → Option (Bool)
 | 0, _, _, _ => none
 | k + 1, x0, x1, x5 => if x5 < (x0.length : Int) then (if 0 ≤ x5 then (if x5 < (x1.length : Int) then ((laws_eqValue.f ((dR x0 x5).f0) ((dR x0 x5).f1) ((dR x0 x5).f2) ((dR x1 x5).f0) ((dR x1 x5).f1) ((dR x1 x5).f2)).bind fun bE7 => (if bE7 = true then (laws_eqValueS.l0 k x0 x1 (wrap64 (x5 + 1))) else (some false))) else (none)) else (none)) else (some true)
def laws_eqValueS.f (k : Nat) (l0 : List (S36)) (l1 : List (S36)) : Option (Bool) := if (l0.length : Int) = (l1.length : Int) then (laws_eqValueS.l0 k l0 l1 0) else (some false)
def laws_eqValueS.T6 : Bool × List (List Nat × List Nat) := (true, [([], []), ([], []), ([0, 1], [0, 1]), ([2], [2]), ([], []), ([], []), ([4, 5], [4, 5]), ([6], [6]), ([3, 7], [3, 7]), ([8], [8])])
def laws_eqValueS.B6 : List Nat := [0, 0, 3, 7, 0, 0, 48, 112, 255, 511]
theorem laws_eqValueS.zI : rtab .any (opsOf Tryz.f123 6) = laws_eqValueS.T6 := by kernel_rfl
theorem laws_eqValueS.nJ : waitsOk laws_eqValueS.T6.2 laws_eqValueS.B6 = true := by kernel_rfl
set_option maxHeartbeats 8000000 in
theorem laws_eqValueS.calls (k : Nat) (A0 : Option Addr) (c0 : Nat) (l0 : List (S36)) (A1 : Option Addr) (c1 : Nat) (l1 : List (S36)) (r : Bool) (w : World) (hr0 : Kd.C TR w A0 l0.length l0) (hc0 : l0.length ≤ c0) (hr1 : Kd.C TR w A1 l1.length l1) (hc1 : l1.length ≤ c1) (h : laws_eqValueS.f k l0 l1 = some r) :
  Calls Tryz.prog 123 #[.slice A0 l0.length c0, .slice A1 l1.length c1] w fun e w' => e = .returned (.bool r) ∧ Below w.heap.size w w' := by
 have XJ := Tryz.underlying36
 have jE := am_ hr0
 have wH := am_ hc0
 clear hr0 hc0
 have HR1 := am_ hr1
 have U6 := am_ hc1
 clear hr1 hc1
 have HB := am_ (Below.refl w.heap.size w)
 have H : (if (l0.length : Int) = (l1.length : Int) then (laws_eqValueS.l0 k l0 l1 0) else (some false)) = some r := h
 clear h
 by_cases c3 : (l0.length : Int) = (l1.length : Int)
 ·rw [if_pos c3] at H
  have fB : ((l0.length : Int) == (l1.length : Int)) = true := beq_iff_eq.mpr c3; have jG : ((l0.length : Int) != (l1.length : Int)) = false := bne_eq_false_iff_eq.mpr c3; (have MZ : (l0.length == l1.length) = true := by first | simpa using c3 | (simp at c3 ⊢; omega)); clear c3; have H' := am_ H; clear H
  go_enter Tryz.func123, Tryz.ntmps123
  go_wp2
  go_loopg [5] k (fun kq v5 w' => ∃ (aC : Int), v5 = .int .i64 aC ∧ Aside0 (laws_eqValueS.l0 kq l0 l1 aC = some r) ∧ Aside0 (kq ≤ k) ∧ Aside0 (Below w.heap.size w w'))
  case atStart => exact ⟨(0), rs_, H', ⟨Nat.le_refl _⟩, ⟨bb_⟩⟩
  case round =>
   clear H'; (try clear c1); (try clear p2); (try clear c3); (try clear fB); (try clear jG); (try clear MZ); obtain ⟨aC, rfl, HA, kY, HB⟩ := hrel
   cases gk with
   | zero => exact absurd HA.out (by simp [laws_eqValueS.l0])
   | succ k1 =>
    have H := HA.out; clear HA; simp only [laws_eqValueS.l0] at H
    by_cases c4 : aC < (l0.length : Int)
    ·rw [if_pos c4] at H
     have gB := decide_eq_true c4; clear c4
     by_cases c5 : 0 ≤ aC
     ·rw [if_pos c5] at H
      have pV := decide_eq_true c5; clear c5
      by_cases c6 : aC < (l1.length : Int)
      ·rw [if_pos c6] at H
       have kN := decide_eq_true c6; clear c6; replace H := bsi_ H; obtain ⟨bE7, Z7, H⟩ := H
       try dsimp only at H
       have A7 := am_ Z7; clear Z7
       by_cases c8 : bE7 = true
       ·subst c8
        rw [if_pos rfl] at H; have H' := am_ H; clear H
        try go_wp2
        replace HB := am_ (below_drew1 HB.out); (have aDU : 0 ≤ (aC : Int) := oa_); (have aG7 : aC < (l0.length : Int) := oa_); obtain ⟨EL, b96, uL, uP, sM⟩ := a3A jE.out aC aDU aG7; have SF := sM; have ND := uP; have N9 := uL; cases b96; replace uL := hb_ HB uL; replace uP := hb_ HB uP; replace sM := hb_ HB sM; replace aDU := eq_true aDU; replace aG7 := eq_true aG7; (have aEJ : 0 ≤ (aC : Int) := oa_); (have aFS : aC < (l1.length : Int) := oa_); obtain ⟨FY, b9Q, tL, rV, sK⟩ := a3A HR1.out aC aEJ aFS; have LM := sK; have R3 := rV; have LC := tL; cases b9Q; replace tL := hb_ HB tL; replace rV := hb_ HB rV; replace sK := hb_ HB sK; replace aEJ := eq_true aEJ; replace aFS := eq_true aFS; (refine start_ (n := 10) (S := fun w' => w'.cell? (EL.add ((aC).toNat * 3)) = some (.int .i64 ((dR l0 aC).f0)) ∧ w'.cell? ⟨(EL.add ((aC).toNat * 3)).block, (EL.add ((aC).toNat * 3)).off + 1, none⟩ = some (.int .i64 ((dR l0 aC).f1)) ∧ w'.cell? ⟨(EL.add ((aC).toNat * 3)).block, (EL.add ((aC).toNat * 3)).off + 2, none⟩ = some (.string ((dR l0 aC).f2)) ∧ w'.cell? (FY.add ((aC).toNat * 3)) = some (.int .i64 ((dR l1 aC).f0)) ∧ w'.cell? ⟨(FY.add ((aC).toNat * 3)).block, (FY.add ((aC).toNat * 3)).off + 1, none⟩ = some (.int .i64 ((dR l1 aC).f1)) ∧ w'.cell? ⟨(FY.add ((aC).toNat * 3)).block, (FY.add ((aC).toNat * 3)).off + 2, none⟩ = some (.string ((dR l1 aC).f2))) (ds := []) (tf 0 10) (by kernel_rfl) rfl rfl ⟨(hb_ HB N9), (hb_ HB ND), (hb_ HB SF), (hb_ HB LC), (hb_ HB R3), (hb_ HB LM)⟩ (fun hHeld => ?_); refine with_tabW laws_eqValueS.zI laws_eqValueS.nJ (fun HT_ HW_ => ?_)); generalize wr.drew = w9 at HB uL uP sM tL rV sK hHeld ⊢
        iterate 3 (refine pl_ ?_)
        refine plx_ 4 (bm 10 23) ?_; refine plx_ 5 (bm 10 55) ?_; refine plx_ 6 (bm 10 119) ?_; refine tlx_ 3 (tf 7 3) ?_; refine tl_ ?_; refine on1_ (i := 8) (N := some 25) (tf 9 1) (h := fun K hK => ?_); refine gs_ Tryz.func55 #[.agg #[.int .i64 ((dR l0 aC).f0), .int .i64 ((dR l0 aC).f1), .string ((dR l0 aC).f2)], .agg #[.int .i64 ((dR l1 aC).f0), .int .i64 ((dR l1 aC).f1), .string ((dR l1 aC).f2)]] ?_; (with_reducible refine (laws_eqValue.calls ((dR l0 aC).f0) ((dR l0 aC).f1) ((dR l0 aC).f2) ((dR l1 aC).f0) ((dR l1 aC).f1) ((dR l1 aC).f2) true _ A7.out).mono ?_); rintro e w10 ⟨rfl, hb⟩; refine ⟨_, rfl, ?_⟩; replace HB := bs_ hb; (try clear hb); refine hK.out _ _ ⟨(have h_ := hb_ HB N9; h_), (have h_ := hb_ HB ND; h_), (have h_ := hb_ HB SF; h_), (have h_ := hb_ HB LC; h_), (have h_ := hb_ HB R3; h_), (have h_ := hb_ HB LM; h_)⟩ (fun hHeld => ?_); clear hK K; refine nm_ ?_; refine plx_ 9 (tf 10 0) ?_; refine done_ (done_of HT_.out (by kernel_rfl)) ?_
        try go_wp2
        go_roundg k1
        case measure => have := kY.out; omega
        case rel => exact ⟨(wrap64 (aC + 1)), rs_, H', ⟨by have := kY.out; omega⟩, ⟨bb_⟩⟩
       ·replace c8 := Bool.eq_false_iff.mpr c8
        subst c8; (rw [if_neg (show ¬ (false = true) by decide)] at H); obtain rfl := Option.some.inj H
        try go_wp2
        replace HB := am_ (below_drew1 HB.out); (have aDU : 0 ≤ (aC : Int) := oa_); (have aG7 : aC < (l0.length : Int) := oa_); obtain ⟨EL, b96, uL, uP, sM⟩ := a3A jE.out aC aDU aG7; have SF := sM; have ND := uP; have N9 := uL; cases b96; replace uL := hb_ HB uL; replace uP := hb_ HB uP; replace sM := hb_ HB sM; replace aDU := eq_true aDU; replace aG7 := eq_true aG7; (have aEJ : 0 ≤ (aC : Int) := oa_); (have aFS : aC < (l1.length : Int) := oa_); obtain ⟨FY, b9Q, tL, rV, sK⟩ := a3A HR1.out aC aEJ aFS; have LM := sK; have R3 := rV; have LC := tL; cases b9Q; replace tL := hb_ HB tL; replace rV := hb_ HB rV; replace sK := hb_ HB sK; replace aEJ := eq_true aEJ; replace aFS := eq_true aFS; (refine start_ (n := 10) (S := fun w' => w'.cell? (EL.add ((aC).toNat * 3)) = some (.int .i64 ((dR l0 aC).f0)) ∧ w'.cell? ⟨(EL.add ((aC).toNat * 3)).block, (EL.add ((aC).toNat * 3)).off + 1, none⟩ = some (.int .i64 ((dR l0 aC).f1)) ∧ w'.cell? ⟨(EL.add ((aC).toNat * 3)).block, (EL.add ((aC).toNat * 3)).off + 2, none⟩ = some (.string ((dR l0 aC).f2)) ∧ w'.cell? (FY.add ((aC).toNat * 3)) = some (.int .i64 ((dR l1 aC).f0)) ∧ w'.cell? ⟨(FY.add ((aC).toNat * 3)).block, (FY.add ((aC).toNat * 3)).off + 1, none⟩ = some (.int .i64 ((dR l1 aC).f1)) ∧ w'.cell? ⟨(FY.add ((aC).toNat * 3)).block, (FY.add ((aC).toNat * 3)).off + 2, none⟩ = some (.string ((dR l1 aC).f2))) (ds := []) (tf 0 10) (by kernel_rfl) rfl rfl ⟨(hb_ HB N9), (hb_ HB ND), (hb_ HB SF), (hb_ HB LC), (hb_ HB R3), (hb_ HB LM)⟩ (fun hHeld => ?_); refine with_tabW laws_eqValueS.zI laws_eqValueS.nJ (fun HT_ HW_ => ?_)); generalize wr.drew = iC at HB uL uP sM tL rV sK hHeld ⊢
        iterate 3 (refine pl_ ?_)
        refine plx_ 4 (bm 10 23) ?_; refine plx_ 5 (bm 10 55) ?_; refine plx_ 6 (bm 10 119) ?_; refine tlx_ 3 (tf 7 3) ?_; refine tl_ ?_; refine on1_ (i := 8) (N := some 25) (tf 9 1) (h := fun K hK => ?_); refine gs_ Tryz.func55 #[.agg #[.int .i64 ((dR l0 aC).f0), .int .i64 ((dR l0 aC).f1), .string ((dR l0 aC).f2)], .agg #[.int .i64 ((dR l1 aC).f0), .int .i64 ((dR l1 aC).f1), .string ((dR l1 aC).f2)]] ?_; (with_reducible refine (laws_eqValue.calls ((dR l0 aC).f0) ((dR l0 aC).f1) ((dR l0 aC).f2) ((dR l1 aC).f0) ((dR l1 aC).f1) ((dR l1 aC).f2) false _ A7.out).mono ?_); rintro e w12 ⟨rfl, hb⟩; refine ⟨_, rfl, ?_⟩; replace HB := bs_ hb; (try clear hb); refine hK.out _ _ ⟨(have h_ := hb_ HB N9; h_), (have h_ := hb_ HB ND; h_), (have h_ := hb_ HB SF; h_), (have h_ := hb_ HB LC; h_), (have h_ := hb_ HB R3; h_), (have h_ := hb_ HB LM; h_)⟩ (fun hHeld => ?_); clear hK K; refine nm_ ?_; refine plx_ 9 (tf 10 0) ?_; refine done_ (done_of HT_.out (by kernel_rfl)) ?_
        try go_wp2
        go_ret
        exact ⟨er_, bb_⟩
      ·rw [if_neg c6] at H
       exact nn_ H
     ·rw [if_neg c5] at H
      exact nn_ H
    ·rw [if_neg c4] at H
     have gB := decide_eq_false c4; clear c4; obtain rfl := Option.some.inj H
     go_wp2
     go_ret
     exact ⟨er_, bb_⟩
 ·rw [if_neg c3] at H
  have fB : ((l0.length : Int) == (l1.length : Int)) = false := beq_eq_false_iff_ne.mpr c3; have jG : ((l0.length : Int) != (l1.length : Int)) = true := bne_iff_ne.mpr c3; (have MZ : (l0.length == l1.length) = false := by first | simpa using c3 | (simp at c3 ⊢; omega)); obtain rfl := Option.some.inj H
  go_enter Tryz.func123, Tryz.ntmps123
  go_wp2
  go_ret
  exact ⟨er_, bb_⟩

/-! ### laws_eqCounted: function 102 -/
def laws_eqCounted.f (k : Nat) (iK : List (S36)) (aI : Int) (G6 : List (S36)) (bL : Int) : Option (Bool) := (laws_eqValueS.f k iK G6).bind fun aTP => (if aTP = true then (if aI = bL then (some true) else (some false)) else (some false))
set_option maxHeartbeats 8000000 in
theorem laws_eqCounted.calls (k : Nat) (z8 : Option Addr) (yV : Nat) (iK : List (S36)) (aI : Int) (aCW : Option Addr) (aBE : Nat) (G6 : List (S36)) (bL : Int) (r : Bool) (w : World) (UH : Kd.C TR w z8 iK.length iK) (UN : iK.length ≤ yV) (b7W : Kd.C TR w aCW G6.length G6) (b65 : G6.length ≤ aBE) (h : laws_eqCounted.f k iK aI G6 bL = some r) :
  Calls Tryz.prog 102 #[.agg #[.slice z8 iK.length yV, .int .i64 aI], .agg #[.slice aCW G6.length aBE, .int .i64 bL]] w fun e w' => e = .returned (.bool r) ∧ Below w.heap.size w w' := by
 have aQQ := Tryz.underlying126
 have UG := am_ UH
 have UJ := am_ UN
 clear UH UN
 have aPY := am_ b7W
 have aQ5 := am_ b65
 clear b7W b65
 have HB := am_ (Below.refl w.heap.size w)
 have H : ((laws_eqValueS.f k iK G6).bind fun aTP => (if aTP = true then (if aI = bL then (some true) else (some false)) else (some false))) = some r := h
 clear h
 replace H := bsi_ H
 obtain ⟨aTP, E8, H⟩ := H
 try dsimp only at H
 have A3 := am_ E8
 clear E8
 by_cases c4 : aTP = true
 ·subst c4
  rw [if_pos rfl] at H
  by_cases c5 : aI = bL
  ·rw [if_pos c5] at H
   have pV : (aI == bL) = true := beq_iff_eq.mpr c5; have TB : (aI != bL) = false := bne_eq_false_iff_eq.mpr c5; clear c5; obtain rfl := Option.some.inj H
   go_enter Tryz.func102, Tryz.ntmps102
   go_wp2_with (first | ((with_reducible refine gate_dst (N := 2) rfl ?_); refine bx_ 2 #[.slice z8 iK.length yV, .int .i64 aI] 126 ?_; intro b5Y hg w6 hbox hb; have jO := am_ (hbox); have b84 := gw_ hg; have b7E := gw_ hg; replace HB := bs_ hb; clear hb hbox hg) | ((with_reducible refine gate_dst (N := 3) rfl ?_); refine bx_ 3 #[.slice aCW G6.length aBE, .int .i64 bL] 126 ?_; intro b6B hg w7 hbox hb; have zJ := am_ (hbox); have b63 := gw_ hg; have b7M := gw_ hg; have yX := nl_ hg jO; have yR := ng_ hg jO; replace jO := bkb_ jO hb; replace HB := bs_ hb; clear hb hbox hg; have aOF := yX.out; have aP1 := yR.out; obtain ⟨nW, nV, nR, oL⟩ := b2_ jO; obtain ⟨iM, iE, iJ, iN⟩ := b2_ zJ) | ((with_reducible refine gate_callee (f := 123) rfl ?_); refine gsL_ (some 9) Tryz.func123 #[.slice z8 iK.length yV, .slice aCW G6.length aBE] ?_; (with_reducible refine (laws_eqValueS.calls k _ _ iK _ _ G6 true _ ?aK ?aT ?bB ?bC A3.out).mono ?_); (case aK => exact ck_ (Kd.C_below UG.out HB.out)); (case aT => exact UJ.out); (case bB => exact ck_ (Kd.C_below aPY.out HB.out)); (case bC => exact aQ5.out); rintro e iC ⟨rfl, hb⟩; refine ⟨_, rfl, ?_⟩; replace jO := bkb_ jO hb; replace zJ := bkb_ zJ hb; replace HB := bs_ hb; (try clear hb); obtain ⟨oW, nT, pG, oM⟩ := b2_ jO; obtain ⟨OY, QD, OP, M5⟩ := b2_ zJ))
   go_ret
   exact ⟨er_, bb_⟩
  ·rw [if_neg c5] at H
   have pV : (aI == bL) = false := beq_eq_false_iff_ne.mpr c5; have TB : (aI != bL) = true := bne_iff_ne.mpr c5; obtain rfl := Option.some.inj H
   go_enter Tryz.func102, Tryz.ntmps102
   go_wp2_with (first | ((with_reducible refine gate_dst (N := 2) rfl ?_); refine bx_ 2 #[.slice z8 iK.length yV, .int .i64 aI] 126 ?_; intro b5Y hg w14 hbox hb; have jO := am_ (hbox); have b84 := gw_ hg; have b7E := gw_ hg; replace HB := bs_ hb; clear hb hbox hg) | ((with_reducible refine gate_dst (N := 3) rfl ?_); refine bx_ 3 #[.slice aCW G6.length aBE, .int .i64 bL] 126 ?_; intro b6B hg w15 hbox hb; have zJ := am_ (hbox); have b63 := gw_ hg; have b7M := gw_ hg; have yX := nl_ hg jO; have yR := ng_ hg jO; replace jO := bkb_ jO hb; replace HB := bs_ hb; clear hb hbox hg; have c4O := yX.out; have cD7 := yR.out; obtain ⟨pO, oO, pM, o6⟩ := b2_ jO; obtain ⟨rQ, sU, sD, sG⟩ := b2_ zJ) | ((with_reducible refine gate_callee (f := 123) rfl ?_); refine gsL_ (some 9) Tryz.func123 #[.slice z8 iK.length yV, .slice aCW G6.length aBE] ?_; (with_reducible refine (laws_eqValueS.calls k _ _ iK _ _ G6 true _ ?aK ?aT ?bB ?bC A3.out).mono ?_); (case aK => exact ck_ (Kd.C_below UG.out HB.out)); (case aT => exact UJ.out); (case bB => exact ck_ (Kd.C_below aPY.out HB.out)); (case bC => exact aQ5.out); rintro e w19 ⟨rfl, hb⟩; refine ⟨_, rfl, ?_⟩; replace jO := bkb_ jO hb; replace zJ := bkb_ zJ hb; replace HB := bs_ hb; (try clear hb); obtain ⟨xC, xB, wM, wY⟩ := b2_ jO; obtain ⟨xW, xY, wS, xV⟩ := b2_ zJ))
   go_ret
   exact ⟨er_, bb_⟩
 ·replace c4 := Bool.eq_false_iff.mpr c4
  subst c4; (rw [if_neg (show ¬ (false = true) by decide)] at H); obtain rfl := Option.some.inj H
  go_enter Tryz.func102, Tryz.ntmps102
  go_wp2_with (first | ((with_reducible refine gate_dst (N := 2) rfl ?_); refine bx_ 2 #[.slice z8 iK.length yV, .int .i64 aI] 126 ?_; intro b5Y hg w22 hbox hb; have jO := am_ (hbox); have b84 := gw_ hg; have b7E := gw_ hg; replace HB := bs_ hb; clear hb hbox hg) | ((with_reducible refine gate_dst (N := 3) rfl ?_); refine bx_ 3 #[.slice aCW G6.length aBE, .int .i64 bL] 126 ?_; intro b6B hg w23 hbox hb; have zJ := am_ (hbox); have b63 := gw_ hg; have b7M := gw_ hg; have yX := nl_ hg jO; have yR := ng_ hg jO; replace jO := bkb_ jO hb; replace HB := bs_ hb; clear hb hbox hg; have cAJ := yX.out; have bZR := yR.out; obtain ⟨mU, mX, mP, mR⟩ := b2_ jO; obtain ⟨OW, M8, S9, LP⟩ := b2_ zJ) | ((with_reducible refine gate_callee (f := 123) rfl ?_); refine gsL_ (some 9) Tryz.func123 #[.slice z8 iK.length yV, .slice aCW G6.length aBE] ?_; (with_reducible refine (laws_eqValueS.calls k _ _ iK _ _ G6 false _ ?aK ?aT ?bB ?bC A3.out).mono ?_); (case aK => exact ck_ (Kd.C_below UG.out HB.out)); (case aT => exact UJ.out); (case bB => exact ck_ (Kd.C_below aPY.out HB.out)); (case bC => exact aQ5.out); rintro e w27 ⟨rfl, hb⟩; refine ⟨_, rfl, ?_⟩; replace jO := bkb_ jO hb; replace zJ := bkb_ zJ hb; replace HB := bs_ hb; (try clear hb)))
  go_ret
  exact ⟨er_, bb_⟩

end Go.Proofs.YtnobhkmpkichdaaGreat.PFnExactWidth
