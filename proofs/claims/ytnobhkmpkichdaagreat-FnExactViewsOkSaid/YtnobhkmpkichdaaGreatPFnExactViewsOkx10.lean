import Derived.Test.YtnobhkmpkichdaaGreatPress5
import Derived.Test.YtnobhkmpkichdaaGreatPFnExactViewsOkx3
import Derived.Test.YtnobhkmpkichdaaGreatPFnExactViewsOkx7
import Derived.Test.YtnobhkmpkichdaaGreatPFnExactViewsOkx9
namespace Go.Proofs.YtnobhkmpkichdaaGreat.PFnExactViewsOk
open Go.RowKit YtnobhkmpkichdaaGreatW.PrintWords YtnobhkmpkichdaaGreatW.PrintLast YtnobhkmpkichdaaGreatW.PrintMore
attribute [local go_sem] aDf aDi aEf aEe aCs aCt aDh aDg
set_option linter.unusedVariables false
set_option maxHeartbeats 8000000
set_option maxRecDepth 100000
set_option linter.unusedSimpArgs false
def aGs (k : Nat) (l : List S39) (w : Int) : Option Bool := aHn (fun x => iI.f k x.f0 x.f1 x.f2.f0 x.f2.f1 x.f2.f2 x.f3 x.f4 w) l
theorem aJ1 {w : World} {g : Nat} {t : TypeId} {v0 : Value} (h : Aside0 (w.heap[g]? = some (.cells #[v0] t (0, 0)))) : w.cell? ⟨g, 0, none⟩ = some v0 ∧ True ∧ w.frozen? ⟨g, 0, none⟩ = false ∧ True := ⟨bc_ h 0, trivial, aAx h.out 0, trivial⟩
theorem a3F : ∀ args w, (callFunc 76 args).run Tryz.prog w = .ok (.enter 76 args) w := enters_of Tryz.func76 (by kernel_rfl) rfl
theorem a6A (k : Nat) (a1 : Int) (B : Nat) (xs : List S39) (w : World) (hB : B < w.heap.size) (hc : w.cell? ⟨B, 0, none⟩ = some (.int .i64 a1)) :
  CB Tryz.prog jX (fun cs => Value.agg cs.toArray) 76 #[.pointer (some ⟨B, 0, none⟩)] (fun x => iI.f k x.f0 x.f1 x.f2.f0 x.f2.f1 x.f2.f2 x.f3 x.f4 a1) xs w := by
 intro W x cs b hb _ hK hf
 obtain ⟨A2, c2, rfl, hl2, hg2⟩ := zY hK
 have hc' : W.cell? ⟨B, 0, none⟩ = some (.int .i64 a1) := (hb.cell (p := ⟨B, 0, none⟩) hB).trans hc
 have zH := Tryz.underlying39
 have HR := am_ hg2
 have HL := am_ hl2
 have HF := am_ hf
 have HX := am_ (Nat.lt_of_lt_of_le hB hb.size)
 have HCC := am_ hc'
 clear hK hf hb hc hl2 hg2 hc'
 have w_ : W = W := rfl
 have HB := am_ (Below.refl W.heap.size W)
 show Calls Tryz.prog 76 #[.agg #[.int .i64 x.f0, .int .i64 x.f1, .int .i64 x.f2.f0, .int .i64 x.f2.f1, .string x.f2.f2, .string x.f3, .slice A2 x.f4.length c2], .pointer (some ⟨B, 0, none⟩)] W _
 go_enter Tryz.func76, Tryz.ntmps76
 go_wp2_with (first
  | ((with_reducible refine aAc (N := 2) rfl ?_); refine bx_ 2 #[.int .i64 x.f0, .int .i64 x.f1, .int .i64 x.f2.f0, .int .i64 x.f2.f1, .string x.f2.f2, .string x.f3, .slice A2 x.f4.length c2] 39 ?_; intro g hg w5 hbox hb; have BK := am_ hbox; have hcc := (hb.cell (p := ⟨B, 0, none⟩) (show B < _ from HX.out)).trans HCC.out; replace HB := bs_ hb; clear hb hbox hg; obtain ⟨kW, kU, oU, pG, oK, oJ, oO, kY, lH, oW, oV, p9, pI, oH⟩ := b7_ BK)
  | (go_at_call 74; refine (iI.calls k x.f0 x.f1 x.f2.f0 x.f2.f1 x.f2.f2 x.f3 A2 c2 x.f4 a1 b _ (Kd.aAp HR.out HB.out) HL.out HF.out).mono ?_; rintro e w7 ⟨rfl, hb⟩; replace HB := bs_ hb; clear hb))
 go_ret
 exact ⟨er_, bb_⟩
theorem a6U : ∀ args w, (callFunc 78 args).run Tryz.prog w = .ok (.enter 78 args) w := enters_of Tryz.func78 (by kernel_rfl) rfl
theorem a7C (k : Nat) (a1 : Int) (B : Nat) (xs : List S39) (w : World) (hB : B < w.heap.size) (hc : w.cell? ⟨B, 0, none⟩ = some (.int .i64 a1)) :
  CB Tryz.prog jX (fun cs => Value.agg cs.toArray) 78 #[.pointer (some ⟨B, 0, none⟩)] (fun x => iI.f k x.f0 x.f1 x.f2.f0 x.f2.f1 x.f2.f2 x.f3 x.f4 a1) xs w := by
 intro W x cs b hb _ hK hf
 obtain ⟨A2, c2, rfl, hl2, hg2⟩ := zY hK
 have hc' : W.cell? ⟨B, 0, none⟩ = some (.int .i64 a1) := (hb.cell (p := ⟨B, 0, none⟩) hB).trans hc
 have zH := Tryz.underlying39
 have HR := am_ hg2
 have HL := am_ hl2
 have HF := am_ hf
 have HX := am_ (Nat.lt_of_lt_of_le hB hb.size)
 have HCC := am_ hc'
 clear hK hf hb hc hl2 hg2 hc'
 have w_ : W = W := rfl
 have HB := am_ (Below.refl W.heap.size W)
 show Calls Tryz.prog 78 #[.agg #[.int .i64 x.f0, .int .i64 x.f1, .int .i64 x.f2.f0, .int .i64 x.f2.f1, .string x.f2.f2, .string x.f3, .slice A2 x.f4.length c2], .pointer (some ⟨B, 0, none⟩)] W _
 go_enter Tryz.func78, Tryz.ntmps78
 go_wp2_with (first
  | ((with_reducible refine aAc (N := 2) rfl ?_); refine bx_ 2 #[.int .i64 x.f0, .int .i64 x.f1, .int .i64 x.f2.f0, .int .i64 x.f2.f1, .string x.f2.f2, .string x.f3, .slice A2 x.f4.length c2] 39 ?_; intro g hg w5 hbox hb; have BK := am_ hbox; have hcc := (hb.cell (p := ⟨B, 0, none⟩) (show B < _ from HX.out)).trans HCC.out; replace HB := bs_ hb; clear hb hbox hg; obtain ⟨kW, kU, oU, pG, oK, oJ, oO, kY, lH, oW, oV, p9, pI, oH⟩ := b7_ BK)
  | (go_at_call 74; refine (iI.calls k x.f0 x.f1 x.f2.f0 x.f2.f1 x.f2.f2 x.f3 A2 c2 x.f4 a1 b _ (Kd.aAp HR.out HB.out) HL.out HF.out).mono ?_; rintro e w7 ⟨rfl, hb⟩; replace HB := bs_ hb; clear hb))
 go_ret
 exact ⟨er_, bb_⟩
def aG.j0 (E_ : (List S68) → Int → ByteArray → Int → Int → Int → Int → ByteArray → ByteArray → (List S39) → (List S39) → Int → (List S42) → Int → Option Int) : Nat → List S68 → Int → Int → Int → ByteArray → Int → Int → Int → Int → ByteArray → ByteArray → List S39 → List S39 → Int → List S42 → Option (Int × Bool)
 | 0, _, _, _, _, _, _, _, _, _, _, _, _, _, _, _ => none
 | k + 1, x1, x2, x8, pK, FC, yR, yB, xN, y8, xZ, xP, y9, lK, rJ, G6 => (dG.f E_ k pK FC yR yB xN y8 xZ xP y9 lK rJ G6 x1 x2 x8).bind fun qL => (if qL.2 = true then (if 0 < (qL.1.length : Int) then (if pK = 1 then ((bO.f k pK FC yR yB xN y8 xZ xP y9 lK rJ G6 true false true true).bind fun bSQ => (if bSQ = true then ((iI.f k yR yB xN y8 xZ xP y9 (rd qL.1 0)).bind fun cDZ => (some (rd qL.1 0, cDZ))) else (some (rd qL.1 0, false)))) else (if pK = 2 then ((bO.f k pK FC yR yB xN y8 xZ xP y9 lK rJ G6 true true false true).bind fun bRI => (if bRI = true then (if (lK.length : Int) > 0 then ((aGs k lK (rd qL.1 0)).bind fun bWZ => (some ((lK.length : Int), bWZ))) else (some ((lK.length : Int), false))) else (some ((lK.length : Int), false)))) else (if pK = 3 then (if 1 < (qL.1.length : Int) then ((bO.f k pK FC yR yB xN y8 xZ xP y9 lK rJ G6 true false true true).bind fun c2B => (if c2B = true then ((iI.f k yR yB xN y8 xZ xP y9 (wrap64 ((rd qL.1 0) + (rd qL.1 1)))).bind fun c4J => (some (wrap64 ((rd qL.1 0) + (rd qL.1 1)), c4J))) else (some (wrap64 ((rd qL.1 0) + (rd qL.1 1)), false)))) else (none)) else (if pK = 4 then ((bO.f k pK FC yR yB xN y8 xZ xP y9 lK rJ G6 true true true true).bind fun bWO => (if bWO = true then (if 1 < (qL.1.length : Int) then (some (rd qL.1 0, ((rd qL.1 0) == (rd qL.1 1)))) else (none)) else (some (rd qL.1 0, false)))) else (if pK = 5 then ((bO.f k pK FC yR yB xN y8 xZ xP y9 lK rJ G6 true true true true).bind fun c77 => (some (rd qL.1 0, c77))) else (if pK = 6 then ((bO.f k pK FC yR yB xN y8 xZ xP y9 lK rJ G6 true true false false).bind fun bZ4 => (if bZ4 = true then ((dF.f rJ 0 (rd qL.1 0)).bind fun bV4 => (if bV4 = true then (if (lK.length : Int) ≤ 1 then ((aGs k lK (rd qL.1 0)).bind fun c07 => (some (wrap64 ((wrap64 (rJ + 1)) + (lK.length : Int)), c07))) else (some (wrap64 ((wrap64 (rJ + 1)) + (lK.length : Int)), false))) else (some (wrap64 ((wrap64 (rJ + 1)) + (lK.length : Int)), false)))) else (some (wrap64 ((wrap64 (rJ + 1)) + (lK.length : Int)), false)))) else (some (0, false)))))))) else (none)) else (some (0, false)))
def aG.f (E_ : (List S68) → Int → ByteArray → Int → Int → Int → Int → ByteArray → ByteArray → (List S39) → (List S39) → Int → (List S42) → Int → Option Int) (k : Nat) (aA : Int) (aD : ByteArray) (aH aK : Int) (aJ aI : Int) (bC bB : ByteArray) (bG aV : List S39) (aW : Int) (aM : List S42) (l1 : List S68) (a2 : Int) : Option (Int × Bool) := if a2 > 8 then (some (0, false)) else (if aA = 0 then ((eH.f l1 aD).bind fun Q7 => (if Q7.2.2.2 = true then ((bO.f k aA aD aH aK aJ aI bC bB bG aV aW aM false true true true).bind fun bAR => (if bAR = true then (some (Q7.2.1, ((aM.length : Int) == 0))) else (some (Q7.2.1, false)))) else (some (Q7.2.1, false)))) else (if aA = 3 then (aG.j0 E_ k l1 a2 2 aA aD aH aK aJ aI bC bB bG aV aW aM) else (if aA = 4 then (aG.j0 E_ k l1 a2 2 aA aD aH aK aJ aI bC bB bG aV aW aM) else (aG.j0 E_ k l1 a2 1 aA aD aH aK aJ aI bC bB bG aV aW aM))))
def aG.T7 : Bool × List (List Nat × List Nat) := (true, [([], []), ([0], [0]), ([1], [1]), ([], []), ([3], [3]), ([4], [4]), ([5, 4, 4], [4, 5]), ([4, 6], [4, 6]), ([7, 6], [7]), ([8], [8]), ([9, 8], [8, 9]), ([10, 8], [8, 10]), ([11, 8], [8, 11]), ([8, 12], [8, 12]), ([2, 8, 0, 1, 2], [2]), ([13, 14, 0, 1, 2, 3, 4, 5, 6, 7, 8, 9, 10, 11, 12, 13, 14], [13])])
def aG.B7 : List Nat := [0, 1, 3, 0, 8, 24, 56, 120, 248, 504, 1016, 2040, 4088, 8184, 511, 32767]
theorem aG.cES : aEr .any (opsOf Tryz.f53 7) = aG.T7 := by kernel_rfl
theorem aG.bOV : aBu aG.T7.2 aG.B7 = true := by kernel_rfl
def aG.T17 : Bool × List (List Nat × List Nat) := (true, [([], []), ([], []), ([1], [1]), ([2, 2], [2]), ([3], [3]), ([4, 3], [3, 4]), ([3], [3]), ([5, 6, 3, 3], [3, 5, 6]), ([3, 7], [3, 7]), ([0, 7, 0], [0]), ([8, 9, 0, 1, 2, 3, 4, 5, 6, 7, 8, 9], [8])])
def aG.B17 : List Nat := [0, 0, 2, 6, 14, 30, 14, 126, 254, 255, 1023]
theorem aG.c6J : aEr .any (opsOf Tryz.f53 17) = aG.T17 := by kernel_rfl
theorem aG.bTI : aBu aG.T17.2 aG.B17 = true := by kernel_rfl
def aG.T19 : Bool × List (List Nat × List Nat) := (true, [([], []), ([0], [0]), ([1], [1]), ([], []), ([3], [3]), ([4, 4], [4]), ([5], [5]), ([6, 5], [5, 6]), ([7, 5], [5, 7]), ([8, 5], [5, 8]), ([5, 9], [5, 9]), ([10, 5], [10]), ([11], [11]), ([12, 11], [11, 12]), ([11], [11]), ([13, 14, 11, 11], [11, 13, 14]), ([11, 15], [11, 15]), ([2, 15, 0, 1, 2], [2]), ([16, 17, 0, 1, 2, 3, 4, 5, 6, 7, 8, 9, 10, 11, 12, 13, 14, 15, 16, 17], [16])])
def aG.B19 : List Nat := [0, 1, 3, 0, 8, 24, 56, 120, 248, 504, 1016, 2040, 4088, 8184, 4088, 32760, 65528, 65535, 262143]
theorem aG.cKV : aEr .any (opsOf Tryz.f53 19) = aG.T19 := by kernel_rfl
theorem aG.bXT : aBu aG.T19.2 aG.B19 = true := by kernel_rfl
def aG.T21 : Bool × List (List Nat × List Nat) := (true, [([], []), ([], []), ([1], [1]), ([2], [2]), ([0, 3], [0, 3]), ([], []), ([5], [5]), ([6, 6], [6]), ([7], [7]), ([8, 7], [7, 8]), ([7], [7]), ([7], [7]), ([11, 7], [7, 11]), ([12, 7], [7, 12]), ([10, 13, 7], [7, 10, 13]), ([9, 14, 7, 7], [7, 9, 14]), ([7, 15], [7, 15]), ([4, 15, 0, 1, 2, 3, 4], [4]), ([16, 17, 0, 1, 2, 3, 4, 5, 6, 7, 8, 9, 10, 11, 12, 13, 14, 15, 16, 17], [16])])
def aG.B21 : List Nat := [0, 0, 2, 6, 15, 0, 32, 96, 224, 480, 224, 224, 2272, 6368, 15584, 32736, 65504, 65535, 262143]
theorem aG.bP2 : aEr .any (opsOf Tryz.f53 21) = aG.T21 := by kernel_rfl
theorem aG.b6R : aBu aG.T21.2 aG.B21 = true := by kernel_rfl
def aG.T23 : Bool × List (List Nat × List Nat) := (true, [([], []), ([], []), ([1], [1]), ([2, 2], [2]), ([3], [3]), ([3], [3]), ([5, 3], [3, 5]), ([6, 3], [3, 6]), ([4, 7, 3], [3, 4, 7]), ([3, 8], [3, 8]), ([0, 3, 0], [0]), ([9, 10, 0, 1, 2, 3, 4, 5, 6, 7, 8, 9, 10], [9])])
def aG.B23 : List Nat := [0, 0, 2, 6, 14, 14, 46, 110, 254, 510, 15, 2047]
theorem aG.bQ1 : aEr .any (opsOf Tryz.f53 23) = aG.T23 := by kernel_rfl
theorem aG.b2Q : aBu aG.T23.2 aG.B23 = true := by kernel_rfl
def aG.T27 : Bool × List (List Nat × List Nat) := (true, [([], []), ([0], [0]), ([1], [1]), ([], []), ([3], [3]), ([4], [4]), ([2, 5], [2, 5]), ([], []), ([7], [7]), ([8, 8], [8]), ([9], [9]), ([10, 9], [9, 10]), ([9], [9]), ([11, 12, 9, 9], [9, 11, 12]), ([9, 13], [9, 13]), ([14, 13], [14]), ([15], [15]), ([16, 15], [15, 16]), ([17, 15], [15, 17]), ([18, 15], [15, 18]), ([15, 19], [15, 19]), ([20, 15], [20]), ([21], [21]), ([22, 21], [21, 22]), ([21], [21]), ([23, 24, 21, 21], [21, 23, 24]), ([21, 25], [21, 25]), ([6, 25, 0, 1, 2, 3, 4, 5, 6], [6]), ([26, 27, 0, 1, 2, 3, 4, 5, 6, 7, 8, 9, 10, 11, 12, 13, 14, 15, 16, 17, 18, 19, 20, 21, 22, 23, 24, 25, 26, 27], [26])])
def aG.B27 : List Nat := [0, 1, 3, 0, 8, 24, 63, 0, 128, 384, 896, 1920, 896, 8064, 16256, 32640, 65408, 130944, 262016, 524160, 1048448, 2097024, 4194176, 8388480, 4194176, 33554304, 67108736, 67108863, 268435455]
theorem aG.bQ4 : aEr .any (opsOf Tryz.f53 27) = aG.T27 := by kernel_rfl
theorem aG.b9W : aBu aG.T27.2 aG.B27 = true := by kernel_rfl
theorem aG.calls (E_ : (List S68) → Int → ByteArray → Int → Int → Int → Int → ByteArray → ByteArray → (List S39) → (List S39) → Int → (List S42) → Int → Option Int) (UC : ∀ (A0 : Option Addr) (c0 : Nat) (l0 : List S68) (aX : Int) (bD : ByteArray) (bJ bX : Int) (bY bV : Int) (eX eY : ByteArray) (iX : Option Addr) (iY : Nat) (dU : List S39) (iA : Option Addr) (gZ : Nat) (dB : List S39) (dC : Int) (fP : Option Addr) (fG : Nat) (aY : List S42) (a2 r : Int) (w : World) (hr0 : Kd.C BC w A0 l0.length l0) (hc0 : l0.length ≤ c0) (nM : Kd.C jX w iX dU.length dU) (nP : dU.length ≤ iY) (mK : Kd.C jX w iA dB.length dB) (mM : dB.length ≤ gZ) (kJ : Kd.C E5 w fP aY.length aY) (kI : aY.length ≤ fG) (h : E_ l0 aX bD bJ bX bY bV eX eY dU dB dC aY a2 = some r), Calls Tryz.prog 27 #[.slice A0 l0.length c0, .agg #[.int .i64 aX, .string bD, .int .i64 bJ, .int .i64 bX, .int .i64 bY, .int .i64 bV, .string eX, .string eY, .slice iX dU.length iY, .slice iA dB.length gZ, .int .i64 dC, .slice fP aY.length fG], .int .i64 a2] w fun e w' => e = .returned (.int .i64 r) ∧ Below w.heap.size w w') (k : Nat) (aA : Int) (aD : ByteArray) (aH aK : Int) (aJ aI : Int) (bC bB : ByteArray) (dN : Option Addr) (dQ : Nat) (bG : List S39) (bZ : Option Addr) (cB : Nat) (aV : List S39) (aW : Int) (bP : Option Addr) (bM : Nat) (aM : List S42) (A1 : Option Addr) (c1 : Nat) (l1 : List S68) (a2 r1 : Int) (r2 : Bool) (w : World) (mG : Kd.C jX w dN bG.length bG) (lV : bG.length ≤ dQ) (jG : Kd.C jX w bZ aV.length aV) (jH : aV.length ≤ cB) (jS : Kd.C E5 w bP aM.length aM) (jN : aM.length ≤ bM) (hr1 : Kd.C BC w A1 l1.length l1) (hc1 : l1.length ≤ c1) (h : aG.f E_ k aA aD aH aK aJ aI bC bB bG aV aW aM l1 a2 = some (r1, r2)) :
  Calls Tryz.prog 53 #[.agg #[.int .i64 aA, .string aD, .int .i64 aH, .int .i64 aK, .int .i64 aJ, .int .i64 aI, .string bC, .string bB, .slice dN bG.length dQ, .slice bZ aV.length cB, .int .i64 aW, .slice bP aM.length bM], .slice A1 l1.length c1, .int .i64 a2] w fun e w' => e = .returned (.tuple #[.int .i64 r1, .bool r2]) ∧ Below w.heap.size w w' := by
 obtain ⟨MW, aJ8, NT, zH⟩ := c4N
 have iG := am_ mG
 have iD := am_ lV
 clear mG lV
 have iR := am_ jG
 have iZ := am_ jH
 clear jG jH
 have jE := am_ jS
 have jR := am_ jN
 clear jS jN
 have HR1 := am_ hr1
 have MZ := am_ hc1
 clear hr1 hc1
 have HB := am_ (Below.refl w.heap.size w)
 have H : (if a2 > 8 then (some (0, false)) else (if aA = 0 then ((eH.f l1 aD).bind fun Q7 => (if Q7.2.2.2 = true then ((bO.f k aA aD aH aK aJ aI bC bB bG aV aW aM false true true true).bind fun bAR => (if bAR = true then (some (Q7.2.1, ((aM.length : Int) == 0))) else (some (Q7.2.1, false)))) else (some (Q7.2.1, false)))) else (if aA = 3 then (aG.j0 E_ k l1 a2 2 aA aD aH aK aJ aI bC bB bG aV aW aM) else (if aA = 4 then (aG.j0 E_ k l1 a2 2 aA aD aH aK aJ aI bC bB bG aV aW aM) else (aG.j0 E_ k l1 a2 1 aA aD aH aK aJ aI bC bB bG aV aW aM))))) = some (r1, r2) := h
 clear h
 by_cases c4 : a2 > 8
 ·rw [if_pos c4] at H
  have iB := decide_eq_true c4; clear c4; simp only [Option.some.injEq, Prod.mk.injEq] at H; obtain ⟨rfl, rfl⟩ := H
  go_enter Tryz.func53, Tryz.ntmps53
  go_wp2_with (first | ((with_reducible refine aAc (N := 3) rfl ?_); (try (refine aAn (by rfl) ?_; dsimp only)); refine bx_ 3 #[.int .i64 aA, .string aD, .int .i64 aH, .int .i64 aK, .int .i64 aJ, .int .i64 aI, .string bC, .string bB, .slice dN bG.length dQ, .slice bZ aV.length cB, .int .i64 aW, .slice bP aM.length bM] 42 ?_; intro nU hg w5 hbox hb; have aU := am_ (hbox); have bQY := gw_ hg; replace HB := bs_ hb; clear hb hbox hg))
  go_ret2
  exact ⟨er_, bb_⟩
 ·rw [if_neg c4] at H
  have iB := decide_eq_false c4; clear c4; have HC6 := am_ H; clear H
  go_enter Tryz.func53, Tryz.ntmps53
  go_upto_block 0 with (first | ((with_reducible refine aAc (N := 3) rfl ?_); (try (refine aAn (by rfl) ?_; dsimp only)); refine bx_ 3 #[.int .i64 aA, .string aD, .int .i64 aH, .int .i64 aK, .int .i64 aJ, .int .i64 aI, .string bC, .string bB, .slice dN bG.length dQ, .slice bZ aV.length cB, .int .i64 aW, .slice bP aM.length bM] 42 ?_; intro nU hg w7 hbox hb; have aU := am_ (hbox); have bQY := gw_ hg; replace HB := bs_ hb; clear hb hbox hg; obtain ⟨qI, qG, xA, AQ, zB, zZ, AC, SQ, TZ, TB, LH, KL, qF, qH, xD, zU, yU, zQ, zI, U2, TW, SX, MS, M5⟩ := aBw aU))
  (try simp only [Act.put, List.setIfInBounds_toArray, List.set_cons_zero, List.set_cons_succ])
  go_cut [8] (fun v8 wc => ∃ (kq : Nat) (ZH : Int), v8 = .int .i64 ZH ∧ Aside0 (aG.j0 E_ kq l1 a2 ZH aA aD aH aK aJ aI bC bB bG aV aW aM = some (r1, r2)) ∧ Aside0 (kq ≤ k) ∧ Aside0 (wc.heap[nU]? = some (.cells #[.int .i64 aA, .string aD, .int .i64 aH, .int .i64 aK, .int .i64 aJ, .int .i64 aI, .string bC, .string bB, (.slice dN bG.length dQ), (.slice bZ aV.length cB), .int .i64 aW, (.slice bP aM.length bM)] 42 (0, 0))) ∧ Aside0 (Below w.heap.size w wc))
  case first =>
   have H := HC6.out; clear HC6
   by_cases c9 : aA = 0
   ·rw [if_pos c9] at H
    have xC : (aA == 0) = true := beq_iff_eq.mpr c9; have bM9 : (aA != 0) = false := bne_eq_false_iff_eq.mpr c9; clear c9; (first | rw [xC] | (simp only [aCj, aCw]; rw [xC]) | skip); replace H := aBp H; obtain ⟨⟨b03, aZT, aD2, d2K⟩, aHP, H⟩ := H
    try dsimp only at H
    have RJ := am_ aHP; clear aHP; have gY := am_ H; clear H; obtain ⟨nZ, nV, rD, vX, vP, vZ, wB, D9, CG, BL, wS, wM, oG, nW, rA, wH, vJ, vG, vC, CL, BI, DJ, wX, wO⟩ := aBw aU
    try go_wp2_with (first | ((with_reducible refine aAa (f := 42) rfl ?_); refine aBh (some 24) Tryz.func42 #[.slice A1 l1.length c1, .string aD] ?_; (with_reducible refine (eH.calls (fun k_ => k_ < w.heap.size) _ _ _ _ _ _ _ _ _ (Kd.aSp MZ.out (Kd.aEo (Kd.C_F AB HR1.out) bb_)) RJ.out).mono ?_); rintro e w15 ⟨dDN, rfl, ho0, hb⟩; refine ⟨_, rfl, ?_⟩; have GV := am_ (Kd.aGo (Kd.aEa (ok' := fun k_ => k_ ≠ nU) ho0 (fun k_ hk_ => Or.elim hk_ (fun hs_ => fun e_ => Nat.not_le.2 hs_ (by rw [e_]; exact bQY.out)) (fun hn_ => (Kd.aKv (g := nU) (o := .cells #[.int .i64 aA, .string aD, .int .i64 aH, .int .i64 aK, .int .i64 aJ, .int .i64 aI, .string bC, .string bB, .slice dN bG.length dQ, .slice bZ aV.length cB, .int .i64 aW, .slice bP aM.length bM] 42 (0, 0)) (aBx aU.out) k_ hn_)))) (aAj bb_)); replace aU := aAt aU hb; replace HB := bs_ hb; clear hb ho0) | ((with_reducible refine aAc (N := 9) rfl ?_); (try (refine aAn (by rfl) ?_; dsimp only)); refine bx_ 9 #[.string (⟨#[]⟩ : ByteArray), .int .i64 0, .slice none 0 0] 68 ?_; intro sM hg w16 hbox hb; have EI := am_ (hbox); have d7X := gw_ hg; have a1Q := nl_ hg aU; have aZF := ng_ hg aU; replace GV := am_ (Kd.aDq (Kd.aEz (v3_ GV.out) sM (Nat.le_of_eq hg.symm)) hb); replace aU := aAt aU hb; replace HB := bs_ hb; clear hb hbox hg; have bPP := aZF.out; have bP9 := a1Q.out; obtain ⟨tY, tJ, yJ, tK, sO, yP⟩ := b3_ EI; obtain ⟨a4Y, a8R, bVI⟩ := Kd.aGw GV.out; subst bVI))
    (have n0_ : Aside0 (Kd.V jU 126 (((w16.setCell ⟨sM, 0, none⟩ (.string b03)).setCell ⟨sM, 1, none⟩ (.int .i64 aZT)).setCell ⟨sM, 2, none⟩ (.slice a4Y aD2.length a8R)) w.heap.size (fun k_ => k_ ≠ nU ∧ k_ ≠ sM) (.slice a4Y aD2.length a8R) aD2) := ⟨by (with_reducible repeat (first | apply Kd.aHq | apply Kd.aHr | apply Kd.aHx)); exact Kd.aEa (aYw (Kd.aEa GV.out (fun k_ hk => (⟨hk, hk.2⟩ : _ ∧ k_ ≠ sM))) (fun _ hk => hk.2)) (fun _ hk => ⟨hk.1.1, hk.1.2⟩)⟩); have n1_ : Aside0 ((((w16.setCell ⟨sM, 0, none⟩ (.string b03)).setCell ⟨sM, 1, none⟩ (.int .i64 aZT)).setCell ⟨sM, 2, none⟩ (.slice a4Y aD2.length a8R)).heap[nU]? = some (.cells #[.int .i64 aA, .string aD, .int .i64 aH, .int .i64 aK, .int .i64 aJ, .int .i64 aI, .string bC, .string bB, .slice dN bG.length dQ, .slice bZ aV.length cB, .int .i64 aW, .slice bP aM.length bM] 42 (0, 0))) := ⟨(aYu a1Q (aBx aU.out))⟩; have pO : Aside0 ((((w16.setCell ⟨sM, 0, none⟩ (.string b03)).setCell ⟨sM, 1, none⟩ (.int .i64 aZT)).setCell ⟨sM, 2, none⟩ (.slice a4Y aD2.length a8R)).heap[sM]? = some (.cells #[.string b03, .int .i64 aZT, .slice a4Y aD2.length a8R] 68 (0, 0))) := ⟨(aWh (aBx EI.out))⟩; have n3_ : Aside0 (Below w.heap.size w (((w16.setCell ⟨sM, 0, none⟩ (.string b03)).setCell ⟨sM, 1, none⟩ (.int .i64 aZT)).setCell ⟨sM, 2, none⟩ (.slice a4Y aD2.length a8R))) := ⟨bb_⟩; (try clear GV); (try clear aU); (try clear EI); (try clear HB); generalize (((w16.setCell ⟨sM, 0, none⟩ (.string b03)).setCell ⟨sM, 1, none⟩ (.int .i64 aZT)).setCell ⟨sM, 2, none⟩ (.slice a4Y aD2.length a8R)) = w20 at n0_ n1_ pO n3_ ⊢; have GV := n0_; have aU := n1_; have EI := pO; have HB := n3_; clear n0_ n1_ pO n3_; replace GV := am_ (Kd.aHx GV.out); replace aU := am_ (aAz aU.out); replace EI := am_ (aAz EI.out); replace HB := am_ (aAm HB.out); have H := gY.out; clear gY
    by_cases c11 : d2K = true
    ·subst c11
     rw [if_pos rfl] at H; replace H := aBp H; obtain ⟨bAR, HY, H⟩ := H
     try dsimp only at H
     have KZ := am_ HY; clear HY; have gY := am_ H; clear H; (refine st_ 16 (aUj EI (aEm aU)) (fun hHeld => ?_); refine aAv aG.cES aG.bOV (fun HT_ HW_ => ?_)); generalize w20.drew = w21 at GV aU EI HB hHeld ⊢
     iterate 2 (refine pl_ ?_)
     refine aBa 3 (bm 16 11) ?_; refine aBa 4 (bm 16 27) ?_; refine aCx 2 (tf 5 11) ?_; refine tl_ ?_; refine aCm (i := 6) (N := some 33) (tf 7 9) (h := fun K hK => ?_); refine gs_ Tryz.func72 #[.agg #[.int .i64 aA, .string aD, .int .i64 aH, .int .i64 aK, .int .i64 aJ, .int .i64 aI, .string bC, .string bB, .slice dN bG.length dQ, .slice bZ aV.length cB, .int .i64 aW, .slice bP aM.length bM], .bool false, .bool true, .bool true, .bool true] ?_; (with_reducible refine (bO.calls _ _ _ _ _ _ _ _ _ _ _ _ _ _ _ _ _ _ _ _ _ _ _ _ _ (cb_ iG HB) iD.out (cb_ iR HB) iZ.out (cb_ jE HB) jR.out KZ.out).mono ?_); rintro e w22 ⟨rfl, hb⟩; refine ⟨_, rfl, ?_⟩; replace GV := am_ (Kd.aDq (v3_ GV.out) hb); replace aU := aAt aU hb; replace EI := aAt EI hb; replace HB := bs_ hb; (try clear hb); refine hK.out _ _ (aUj EI (aEm aU)) (fun hHeld => ?_); clear hK K; refine nm_ ?_; refine aBa 7 (tf 8 8) ?_; have H := gY.out; clear gY
     by_cases c13 : bAR = true
     ·subst c13
      rw [if_pos rfl] at H; simp only [Option.some.injEq, Prod.mk.injEq] at H; obtain ⟨rfl, rfl⟩ := H
      iterate 2 (refine pl_ ?_)
      refine aBa 14 (bm 16 17407) ?_; refine aCx 10 (bm 16 18431) ?_; refine aBa 11 (bm 16 20479) ?_; refine aBa 12 (bm 16 24575) ?_; refine aBa 13 (tf 15 1) ?_; refine pl_ ?_; refine dn_ ?_
      try go_wp2
      go_ret2
      exact ⟨er_, bb_⟩
     ·replace c13 := Bool.eq_false_iff.mpr c13
      subst c13; replace H := aZf H; simp only [Option.some.injEq, Prod.mk.injEq] at H; obtain ⟨rfl, rfl⟩ := H; refine pl_ ?_
      iterate 4 (refine pd_ ?_)
      iterate 3 (refine pl_ ?_)
      refine dn_ ?_
      try go_wp2
      go_ret2
      exact ⟨er_, bb_⟩
    ·replace c11 := Bool.eq_false_iff.mpr c11
     subst c11; replace H := aZf H; simp only [Option.some.injEq, Prod.mk.injEq] at H; obtain ⟨rfl, rfl⟩ := H; (refine st_ 16 (aUu EI) (fun hHeld => ?_); refine aAv aG.cES aG.bOV (fun HT_ HW_ => ?_)); generalize w20.drew = w39 at GV aU EI HB hHeld ⊢
     iterate 2 (refine pl_ ?_)
     refine aBa 3 (bm 16 11) ?_; refine aBa 4 (bm 16 27) ?_; refine aWi 5 (bm 16 59) ?_; refine aWi 6 (bm 16 123) ?_; refine aBa 7 (bm 16 251) ?_; refine aBa 8 (bm 16 507) ?_; refine aWi 9 (bm 16 1019) ?_; refine aWi 10 (bm 16 2043) ?_; refine aWi 11 (bm 16 4091) ?_; refine aWi 12 (bm 16 8187) ?_; refine aBa 13 (bm 16 16379) ?_; refine aCx 2 (tf 14 2) ?_
     iterate 2 (refine pl_ ?_)
     refine dn_ ?_
     try go_wp2
     go_ret2
     exact ⟨er_, bb_⟩
   ·rw [if_neg c9] at H
    have xC : (aA == 0) = false := beq_eq_false_iff_ne.mpr c9; have bM9 : (aA != 0) = true := bne_iff_ne.mpr c9; (first | rw [xC] | (simp only [aCj, aCw]; rw [xC]) | skip)
    by_cases c40 : aA = 3
    ·rw [if_pos c40] at H
     have bOQ : (aA == 3) = true := beq_iff_eq.mpr c40; have bQM : (aA != 3) = false := bne_eq_false_iff_eq.mpr c40; clear c40; have H' := am_ H; clear H
     go_wp2
     go_meet
     case rel => exact ⟨_, (2), rs_, H', ⟨by first | omega | exact Nat.le_refl _⟩, ⟨aBx aU.out⟩, ⟨bb_⟩⟩
    ·rw [if_neg c40] at H
     have bOQ : (aA == 3) = false := beq_eq_false_iff_ne.mpr c40; have bQM : (aA != 3) = true := bne_iff_ne.mpr c40
     by_cases c41 : aA = 4
     ·rw [if_pos c41] at H
      have aMH : (aA == 4) = true := beq_iff_eq.mpr c41; have aMN : (aA != 4) = false := bne_eq_false_iff_eq.mpr c41; clear c41; have H' := am_ H; clear H
      go_wp2
      go_meet
      case rel => exact ⟨_, (2), rs_, H', ⟨by first | omega | exact Nat.le_refl _⟩, ⟨aBx aU.out⟩, ⟨bb_⟩⟩
     ·rw [if_neg c41] at H
      have aMH : (aA == 4) = false := beq_eq_false_iff_ne.mpr c41; have aMN : (aA != 4) = true := bne_iff_ne.mpr c41; have H' := am_ H; clear H
      go_wp2
      go_meet
      case rel => exact ⟨_, (1), rs_, H', ⟨by first | omega | exact Nat.le_refl _⟩, ⟨aBx aU.out⟩, ⟨bb_⟩⟩
  case rest =>
   clear HC6; (try clear c1); (try clear c2); (try clear p2); (try clear c3); (try clear c4); (try clear c7); (try clear c9); (try clear xC); (try clear bM9); (try clear c11); (try clear c13); (try clear c26); (try clear c35); (try clear c40); (try clear bOQ); (try clear bQM); (try clear c41); (try clear aMH); (try clear aMN); (try clear tC sH); (try clear OO); (try clear PG); (try clear sQ yO yK xO yS WX WK X0); (try clear aM9 aU1 aNN); (try clear M6 ME); (try clear Y6); (try clear YF); (try clear ML LU LA KO LX a8M aBO a9M); (try clear a9A a9B a3Q); (try clear sK sV); (try clear QD); (try clear OM); (try clear sS xM yQ xK yM WT X4 WC); (try clear aRK aRF aLB); (try clear LZ M7); (try clear ZN); (try clear ZA); (try clear KF MP MM KH LY a5W a4Q a6H); (try clear aAF a3X a2K); obtain ⟨kq, ZH, rfl, HA, HJ5, aU, HB⟩ := hcut
   cases kq with
   | zero => exact absurd HA.out (by simp [aG.j0])
   | succ kj5 =>
    have H := HA.out; clear HA; simp only [aG.j0] at H; replace H := aBp H; obtain ⟨⟨fQ, d4Z⟩, b9K, H⟩ := H
    try dsimp only at H
    have A42 := am_ b9K; clear b9K
    by_cases c43 : d4Z = true
    ·subst c43
     rw [if_pos rfl] at H
     by_cases c44 : 0 < (fQ.length : Int)
     ·rw [if_pos c44] at H
      have bP4 := decide_eq_true c44; have bR1 : decide (0 < fQ.length) = true := decide_eq_true (by omega); clear c44
      by_cases c45 : aA = 1
      ·rw [if_pos c45] at H
       have cCE : (aA == 1) = true := beq_iff_eq.mpr c45; have cI5 : (aA != 1) = false := bne_eq_false_iff_eq.mpr c45; clear c45; replace H := aBp H; obtain ⟨bSQ, cIV, H⟩ := H
       try dsimp only at H
       have A46 := am_ cIV; clear cIV; have gY := am_ H; clear H; obtain ⟨cX1, cX8, cWA, d17, d00, cS9, d1K, cX5, cS5, cY5, cFX, c8C, cN2, cPH, cZ8, cV1, cU3, cW4, cR6, cNC, cOS, d10, cIY, c5M⟩ := aBw aU
       try go_wp2_with (first | ((with_reducible refine aAa (f := 73) rfl ?_); refine aBh (some 49) Tryz.func73 #[.agg #[.int .i64 aA, .string aD, .int .i64 aH, .int .i64 aK, .int .i64 aJ, .int .i64 aI, .string bC, .string bB, .slice dN bG.length dQ, .slice bZ aV.length cB, .int .i64 aW, .slice bP aM.length bM], .slice A1 l1.length c1, .int .i64 a2, .int .i64 ZH] ?_; (with_reducible refine (dG.calls E_ UC _ _ _ _ _ _ _ _ _ _ _ _ _ _ _ _ _ _ _ _ _ _ _ _ _ _ _ (cb_ iG HB) iD.out (cb_ iR HB) iZ.out (cb_ jE HB) jR.out (cb_ HR1 HB) MZ.out A42.out).mono ?_); rintro e w50 ⟨aJN, rfl, ho0, hb⟩; refine ⟨_, rfl, ?_⟩; have bU := am_ (Kd.aBc ho0 (aAj bb_)); replace aU := aAt aU hb; replace HB := bs_ hb; clear hb ho0; obtain ⟨dDL, d75, d3B⟩ := Kd.aBj bU.out; subst d3B; have uW : 0 ≤ (0 : Int) := (by omega); have uR : 0 < (fQ.length : Int) := oa_; obtain ⟨zR, SV, kD⟩ := Kd.aCe (Kd.aAr bU.out).2.2 0 uW uR; cases SV; have a1F : (0 < fQ.length) = True := eq_true (by omega); (try rw [show ((0 : Int)).toNat = 0 from rfl] at kD); (try rw [Addr.add_zero'] at kD); replace uW := eq_true uW; replace uR := eq_true uR) | ((with_reducible refine aAc (N := 13) rfl ?_); (try (refine aAn (by rfl) ?_; dsimp only)); refine bx_ 13 #[.int .i64 0] 3 ?_; intro fH hg w52 hbox hb; have cZ := am_ (hbox); have a0T := gw_ hg; have iU := nl_ hg aU; have kS := ng_ hg aU; have q0_ := am_ (Kd.aAs (Kd.aAw (Kd.aCv (rk_ bU.out)) (fun k_ h_ => (⟨trivial, by rw [hg]; exact Nat.ne_of_lt h_.2.2.1⟩ : True ∧ k_ ≠ fH))) hb); clear bU; have bU := q0_; clear q0_; replace aU := aAt aU hb; replace HB := bs_ hb; clear hb hbox hg; have d9J := kS.out; have dAC := iU.out; obtain ⟨aMD, aS2, aX1, aUH⟩ := aJ1 cZ; obtain ⟨cSR, d1T, d1J, cXF, cYT, cSU, cUH, cO1, cOV, cPQ, c81, cKH, cRU, cRP, cWS, cZ3, cMT, d1B, cZ4, cVL, cOQ, cT6, cDR, c3K⟩ := aBw aU))
       (have n0_ : Aside0 (Kd.R (Kd.int .i64) 3 (w52.setCell ⟨fH, 0, none⟩ (.int .i64 (rd fQ 0))) w.heap.size (fun _ => True) (.slice (some zR) fQ.length d75) fQ) := ⟨by (with_reducible repeat (first | apply Kd.aBf | apply Kd.aBg | apply Kd.aBi)); exact Kd.aAw (Kd.aOb (p := ⟨fH, 0, none⟩) bU.out (fun _ hk => hk.2) (.int .i64 (rd fQ 0))) (fun _ hk => trivial)⟩); have n1_ : Aside0 ((w52.setCell ⟨fH, 0, none⟩ (.int .i64 (rd fQ 0))).heap[nU]? = some (.cells #[.int .i64 aA, .string aD, .int .i64 aH, .int .i64 aK, .int .i64 aJ, .int .i64 aI, .string bC, .string bB, .slice dN bG.length dQ, .slice bZ aV.length cB, .int .i64 aW, .slice bP aM.length bM] 42 (0, 0))) := ⟨(aQk iU (aBx aU.out))⟩; (have pO : Aside0 ((w52.setCell ⟨fH, 0, none⟩ (.int .i64 (rd fQ 0))).heap[fH]? = some (.cells #[.int .i64 (rd fQ 0)] 3 (0, 0))) := ⟨by (with_reducible repeat (first | refine aCf ?_ _ | refine aAz ?_ | refine aCh ?_ _)); refine aCr (cs := #[.int .i64 0]) ?_ 0 _ rfl; (with_reducible repeat (first | refine aCf ?_ _ | refine aAz ?_ | refine aCh ?_ _)); exact cZ.out⟩); have n3_ : Aside0 (Below w.heap.size w (w52.setCell ⟨fH, 0, none⟩ (.int .i64 (rd fQ 0)))) := ⟨bb_⟩; (try clear bU); (try clear aU); (try clear cZ); (try clear HB); generalize (w52.setCell ⟨fH, 0, none⟩ (.int .i64 (rd fQ 0))) = w56 at n0_ n1_ pO n3_ ⊢; have bU := n0_; have aU := n1_; have cZ := pO; have HB := n3_; clear n0_ n1_ pO n3_; replace bU := am_ (Kd.aBi bU.out); replace aU := am_ (aAz aU.out); replace cZ := am_ (aAz cZ.out); replace HB := am_ (aAm HB.out); (refine st_ 11 (aPe cZ (ht_ (aEm aU))) (fun hHeld => ?_); refine aAv aG.c6J aG.bTI (fun HT_ HW_ => ?_)); generalize w56.drew = w57 at bU aU cZ HB hHeld ⊢
       iterate 2 (refine tl_ ?_)
       refine aCm (i := 2) (N := some 63) (tf 3 8) (h := fun K hK => ?_); refine gs_ Tryz.func72 #[.agg #[.int .i64 aA, .string aD, .int .i64 aH, .int .i64 aK, .int .i64 aJ, .int .i64 aI, .string bC, .string bB, .slice dN bG.length dQ, .slice bZ aV.length cB, .int .i64 aW, .slice bP aM.length bM], .bool true, .bool false, .bool true, .bool true] ?_; (with_reducible refine (bO.calls _ _ _ _ _ _ _ _ _ _ _ _ _ _ _ _ _ _ _ _ _ _ _ _ _ (cb_ iG HB) iD.out (cb_ iR HB) iZ.out (cb_ jE HB) jR.out A46.out).mono ?_); rintro e w58 ⟨rfl, hb⟩; refine ⟨_, rfl, ?_⟩; replace bU := am_ (Kd.aAs (rk_ bU.out) hb); replace aU := aAt aU hb; replace cZ := aAt cZ hb; replace HB := bs_ hb; (try clear hb); refine hK.out _ _ (aPe cZ (ht_ (aEm aU))) (fun hHeld => ?_); clear hK K; refine nm_ ?_; refine aBa 3 (tf 4 7) ?_; have H := gY.out; clear gY
       by_cases c47 : bSQ = true
       ·subst c47
        rw [if_pos rfl] at H; replace H := aBp H; obtain ⟨cDZ, cBP, H⟩ := H
        try dsimp only at H
        have A48 := am_ cBP; clear cBP; simp only [Option.some.injEq, Prod.mk.injEq] at H; obtain ⟨rfl, rfl⟩ := H; refine pl_ ?_
        iterate 2 (refine tl_ ?_)
        refine aCm (i := 7) (N := some 68) (tf 8 3) (h := fun K hK => ?_); refine gs_ Tryz.func74 #[.agg #[.int .i64 aH, .int .i64 aK, .int .i64 aJ, .int .i64 aI, .string bC, .string bB, .slice dN bG.length dQ], .int .i64 (rd fQ 0)] ?_; (with_reducible refine (iI.calls _ _ _ _ _ _ _ _ _ _ _ _ _ (cb_ iG HB) iD.out A48.out).mono ?_); rintro e w59 ⟨rfl, hb⟩; refine ⟨_, rfl, ?_⟩; replace bU := am_ (Kd.aAs (rk_ bU.out) hb); replace aU := aAt aU hb; replace cZ := aAt cZ hb; replace HB := bs_ hb; (try clear hb); refine hK.out _ _ (aPe cZ (ht_ (aEm aU))) (fun hHeld => ?_); clear hK K; refine nm_ ?_; refine aBa 8 (tf 9 2) ?_
        iterate 2 (refine pl_ ?_)
        refine dn_ ?_
        try go_wp2
        go_ret2
        exact ⟨er_, bb_⟩
       ·replace c47 := Bool.eq_false_iff.mpr c47
        subst c47; replace H := aZf H; simp only [Option.some.injEq, Prod.mk.injEq] at H; obtain ⟨rfl, rfl⟩ := H
        iterate 4 (refine pd_ ?_)
        iterate 3 (refine pl_ ?_)
        refine dn_ ?_
        try go_wp2
        go_ret2
        exact ⟨er_, bb_⟩
      ·rw [if_neg c45] at H
       have cCE : (aA == 1) = false := beq_eq_false_iff_ne.mpr c45; have cI5 : (aA != 1) = true := bne_iff_ne.mpr c45
       by_cases c70 : aA = 2
       ·rw [if_pos c70] at H
        have bAH : (aA == 2) = true := beq_iff_eq.mpr c70; have b7P : (aA != 2) = false := bne_eq_false_iff_eq.mpr c70; clear c70; replace H := aBp H; obtain ⟨bRI, b55, H⟩ := H
        try dsimp only at H
        have A71 := am_ b55; clear b55; have gY := am_ H; clear H; obtain ⟨bC0, bFF, bHV, bEI, bKA, bCC, bFE, bOF, bJC, bFW, b2N, b6H, bKZ, bFX, bMW, bHO, bCB, bNF, bBO, bHZ, bG0, bL9, b43, b5B⟩ := aBw aU
        try go_wp2_with (first | ((with_reducible refine aAa (f := 73) rfl ?_); refine aBh (some 49) Tryz.func73 #[.agg #[.int .i64 aA, .string aD, .int .i64 aH, .int .i64 aK, .int .i64 aJ, .int .i64 aI, .string bC, .string bB, .slice dN bG.length dQ, .slice bZ aV.length cB, .int .i64 aW, .slice bP aM.length bM], .slice A1 l1.length c1, .int .i64 a2, .int .i64 ZH] ?_; (with_reducible refine (dG.calls E_ UC _ _ _ _ _ _ _ _ _ _ _ _ _ _ _ _ _ _ _ _ _ _ _ _ _ _ _ (cb_ iG HB) iD.out (cb_ iR HB) iZ.out (cb_ jE HB) jR.out (cb_ HR1 HB) MZ.out A42.out).mono ?_); rintro e w76 ⟨aJN, rfl, ho0, hb⟩; refine ⟨_, rfl, ?_⟩; have bU := am_ (Kd.aBc ho0 (aAj bb_)); replace aU := aAt aU hb; replace HB := bs_ hb; clear hb ho0; obtain ⟨dCG, d2L, d2N⟩ := Kd.aBj bU.out; subst d2N; have uW : 0 ≤ (0 : Int) := (by omega); have uR : 0 < (fQ.length : Int) := oa_; obtain ⟨zR, SV, kD⟩ := Kd.aCe (Kd.aAr bU.out).2.2 0 uW uR; cases SV; have a1F : (0 < fQ.length) = True := eq_true (by omega); (try rw [show ((0 : Int)).toNat = 0 from rfl] at kD); (try rw [Addr.add_zero'] at kD); replace uW := eq_true uW; replace uR := eq_true uR) | ((with_reducible refine aAc (N := 13) rfl ?_); (try (refine aAn (by rfl) ?_; dsimp only)); refine bx_ 13 #[.int .i64 0] 3 ?_; intro fH hg w78 hbox hb; have cZ := am_ (hbox); have a0T := gw_ hg; have iU := nl_ hg aU; have kS := ng_ hg aU; have q0_ := am_ (Kd.aAs (Kd.aAw (Kd.aCv (rk_ bU.out)) (fun k_ h_ => (⟨trivial, by rw [hg]; exact Nat.ne_of_lt h_.2.2.1⟩ : True ∧ k_ ≠ fH))) hb); clear bU; have bU := q0_; clear q0_; replace aU := aAt aU hb; replace HB := bs_ hb; clear hb hbox hg; have d9T := kS.out; have dAS := iU.out; obtain ⟨bFY, bL6, bO1, bKM⟩ := aJ1 cZ; obtain ⟨cX4, cYU, cON, cTA, cVR, d18, cMU, cYB, d02, cVC, c5V, cIF, cXB, cOB, d19, cWF, cOK, cVD, cYZ, cTW, cN3, cT8, cM5, cJV⟩ := aBw aU))
        (have n0_ : Aside0 (Kd.R (Kd.int .i64) 3 (w78.setCell ⟨fH, 0, none⟩ (.int .i64 (rd fQ 0))) w.heap.size (fun _ => True) (.slice (some zR) fQ.length d2L) fQ) := ⟨by (with_reducible repeat (first | apply Kd.aBf | apply Kd.aBg | apply Kd.aBi)); exact Kd.aAw (Kd.aOb (p := ⟨fH, 0, none⟩) bU.out (fun _ hk => hk.2) (.int .i64 (rd fQ 0))) (fun _ hk => trivial)⟩); have n1_ : Aside0 ((w78.setCell ⟨fH, 0, none⟩ (.int .i64 (rd fQ 0))).heap[nU]? = some (.cells #[.int .i64 aA, .string aD, .int .i64 aH, .int .i64 aK, .int .i64 aJ, .int .i64 aI, .string bC, .string bB, .slice dN bG.length dQ, .slice bZ aV.length cB, .int .i64 aW, .slice bP aM.length bM] 42 (0, 0))) := ⟨(aQk iU (aBx aU.out))⟩; (have pO : Aside0 ((w78.setCell ⟨fH, 0, none⟩ (.int .i64 (rd fQ 0))).heap[fH]? = some (.cells #[.int .i64 (rd fQ 0)] 3 (0, 0))) := ⟨by (with_reducible repeat (first | refine aCf ?_ _ | refine aAz ?_ | refine aCh ?_ _)); refine aCr (cs := #[.int .i64 0]) ?_ 0 _ rfl; (with_reducible repeat (first | refine aCf ?_ _ | refine aAz ?_ | refine aCh ?_ _)); exact cZ.out⟩); have n3_ : Aside0 (Below w.heap.size w (w78.setCell ⟨fH, 0, none⟩ (.int .i64 (rd fQ 0)))) := ⟨bb_⟩; (try clear bU); (try clear aU); (try clear cZ); (try clear HB); generalize (w78.setCell ⟨fH, 0, none⟩ (.int .i64 (rd fQ 0))) = w82 at n0_ n1_ pO n3_ ⊢; have bU := n0_; have aU := n1_; have cZ := pO; have HB := n3_; clear n0_ n1_ pO n3_; replace bU := am_ (Kd.aBi bU.out); replace aU := am_ (aAz aU.out); replace cZ := am_ (aAz cZ.out); replace HB := am_ (aAm HB.out); (refine st_ 19 (aEm aU) (fun hHeld => ?_); refine aAv aG.cKV aG.bXT (fun HT_ HW_ => ?_)); generalize w82.drew = w83 at bU aU cZ HB hHeld ⊢; refine pl_ ?_; refine tl_ ?_; refine pl_ ?_; refine tl_ ?_; refine aCm (i := 4) (N := some 76) (tf 5 14) (h := fun K hK => ?_); refine gs_ Tryz.func72 #[.agg #[.int .i64 aA, .string aD, .int .i64 aH, .int .i64 aK, .int .i64 aJ, .int .i64 aI, .string bC, .string bB, .slice dN bG.length dQ, .slice bZ aV.length cB, .int .i64 aW, .slice bP aM.length bM], .bool true, .bool true, .bool false, .bool true] ?_; (with_reducible refine (bO.calls _ _ _ _ _ _ _ _ _ _ _ _ _ _ _ _ _ _ _ _ _ _ _ _ _ (cb_ iG HB) iD.out (cb_ iR HB) iZ.out (cb_ jE HB) jR.out A71.out).mono ?_); rintro e w84 ⟨rfl, hb⟩; refine ⟨_, rfl, ?_⟩; replace bU := am_ (Kd.aAs (rk_ bU.out) hb); replace aU := aAt aU hb; replace cZ := aAt cZ hb; replace HB := bs_ hb
        (try clear hb); refine hK.out _ _ (aEm aU) (fun hHeld => ?_); clear hK K; refine nm_ ?_; have H := gY.out; clear gY
        by_cases c72 : bRI = true
        ·subst c72
         rw [if_pos rfl] at H
         by_cases c73 : (aV.length : Int) > 0
         ·rw [if_pos c73] at H
          have b7H := decide_eq_true c73; have b59 : decide (0 < aV.length) = true := decide_eq_true (by omega); clear c73; replace H := aBp H; obtain ⟨bWZ, cG9, H⟩ := H
          try dsimp only at H
          have A74 := am_ cG9; clear cG9; simp only [Option.some.injEq, Prod.mk.injEq] at H; obtain ⟨rfl, rfl⟩ := H; refine aBa 5 (tf 6 13) ?_; refine pl_ ?_; refine tl_ ?_
          iterate 5 (refine pl_ ?_)
          refine aBa 14 (bm 19 24575) ?_; refine aCx 13 (tf 15 4) ?_; refine aCm (i := 15) (N := some 87) (tf 16 3) (h := fun K hK => ?_); refine gs_ Tryz.func75 #[.slice bZ aV.length cB, .func (.func 76) #[] #[.pointer (some ⟨fH, 0, none⟩)]] ?_; (with_reducible refine (AO.calls (fun x => iI.f kj5 x.f0 x.f1 x.f2.f0 x.f2.f1 x.f2.f2 x.f3 x.f4 (rd fQ 0)) 76 #[.pointer (some ⟨fH, 0, none⟩)] a3F _ _ aV bWZ _ ?fM ?fO ?iN).mono ?_); (case fM => exact cb_ iR HB); (case fO => exact a6A kj5 (rd fQ 0) fH aV _ (aEt (aBx cZ.out)) ((cell_of_block (aBx cZ.out) 0).trans rfl)); (case iN => exact A74.out); rintro e w85 ⟨rfl, hb⟩; refine ⟨_, rfl, ?_⟩; replace bU := am_ (Kd.aAs (rk_ bU.out) hb); replace aU := aAt aU hb; replace cZ := aAt cZ hb; replace HB := bs_ hb; (try clear hb); refine hK.out _ _ (aEm aU) (fun hHeld => ?_); clear hK K; refine nm_ ?_; refine aBa 16 (tf 17 2) ?_
          iterate 2 (refine pl_ ?_)
          refine dn_ ?_
          try go_wp2
          go_ret2
          exact ⟨er_, bb_⟩
         ·rw [if_neg c73] at H
          have b7H := decide_eq_false c73; have b59 : decide (0 < aV.length) = false := decide_eq_false (by omega); clear c73; simp only [Option.some.injEq, Prod.mk.injEq] at H; obtain ⟨rfl, rfl⟩ := H; refine aBa 5 (tf 6 13) ?_; refine pl_ ?_; refine tl_ ?_
          iterate 4 (refine pl_ ?_)
          iterate 4 (refine pd_ ?_)
          iterate 3 (refine pl_ ?_)
          refine dn_ ?_
          try go_wp2
          go_ret2
          exact ⟨er_, bb_⟩
        ·replace c72 := Bool.eq_false_iff.mpr c72
         subst c72; replace H := aZf H; simp only [Option.some.injEq, Prod.mk.injEq] at H; obtain ⟨rfl, rfl⟩ := H; refine aBa 5 (tf 6 13) ?_
         iterate 4 (refine pd_ ?_)
         iterate 2 (refine pl_ ?_)
         iterate 4 (refine pd_ ?_)
         iterate 3 (refine pl_ ?_)
         refine dn_ ?_
         try go_wp2
         go_ret2
         exact ⟨er_, bb_⟩
       ·rw [if_neg c70] at H
        have bAH : (aA == 2) = false := beq_eq_false_iff_ne.mpr c70; have b7P : (aA != 2) = true := bne_iff_ne.mpr c70; have gY := am_ H; clear H; obtain ⟨cCP, c7J, cHT, cIQ, cAD, cC0, cMA, c9A, c68, cAI, c3C, c3G, cDO, cKT, cML, c8U, cGK, cHO, cBV, cJR, cK1, c98, c2W, c3A⟩ := aBw aU; have H := gY.out; clear gY
        by_cases NQ : aA = 3
        ·rw [if_pos NQ] at H
         have aJM : (aA == 3) = true := beq_iff_eq.mpr NQ; have aIS : (aA != 3) = false := bne_eq_false_iff_eq.mpr NQ; clear NQ
         by_cases c107 : 1 < (fQ.length : Int)
         ·rw [if_pos c107] at H
          have bW6 := decide_eq_true c107; have bWV : decide (1 < fQ.length) = true := decide_eq_true (by omega); clear c107; replace H := aBp H; obtain ⟨c2B, bQS, H⟩ := H
          try dsimp only at H
          have cFL := am_ bQS; clear bQS; have gY := am_ H; clear H
          try go_wp2_with (first | ((with_reducible refine aAa (f := 73) rfl ?_); refine aBh (some 49) Tryz.func73 #[.agg #[.int .i64 aA, .string aD, .int .i64 aH, .int .i64 aK, .int .i64 aJ, .int .i64 aI, .string bC, .string bB, .slice dN bG.length dQ, .slice bZ aV.length cB, .int .i64 aW, .slice bP aM.length bM], .slice A1 l1.length c1, .int .i64 a2, .int .i64 ZH] ?_; (with_reducible refine (dG.calls E_ UC _ _ _ _ _ _ _ _ _ _ _ _ _ _ _ _ _ _ _ _ _ _ _ _ _ _ _ (cb_ iG HB) iD.out (cb_ iR HB) iZ.out (cb_ jE HB) jR.out (cb_ HR1 HB) MZ.out A42.out).mono ?_); rintro e d6D ⟨aJN, rfl, ho0, hb⟩; refine ⟨_, rfl, ?_⟩; have bU := am_ (Kd.aBc ho0 (aAj bb_)); replace aU := aAt aU hb; replace HB := bs_ hb; clear hb ho0; obtain ⟨dAH, cEJ, cLX⟩ := Kd.aBj bU.out; subst cLX; have uW : 0 ≤ (0 : Int) := (by omega); have uR : 0 < (fQ.length : Int) := oa_; obtain ⟨zR, SV, kD⟩ := Kd.aCe (Kd.aAr bU.out).2.2 0 uW uR; cases SV; have a1F : (0 < fQ.length) = True := eq_true (by omega); (try rw [show ((0 : Int)).toNat = 0 from rfl] at kD); (try rw [Addr.add_zero'] at kD); replace uW := eq_true uW; replace uR := eq_true uR) | ((with_reducible refine aAc (N := 13) rfl ?_); (try (refine aAn (by rfl) ?_; dsimp only)); refine bx_ 13 #[.int .i64 0] 3 ?_; intro fH hg b87 hbox hb; have cZ := am_ (hbox); have a0T := gw_ hg; have iU := nl_ hg aU; have kS := ng_ hg aU; have q0_ := am_ (Kd.aAs (Kd.aAw (Kd.aCv (rk_ bU.out)) (fun k_ h_ => (⟨trivial, by rw [hg]; exact Nat.ne_of_lt h_.2.2.1⟩ : True ∧ k_ ≠ fH))) hb); clear bU; have bU := q0_; clear q0_; replace aU := aAt aU hb; replace HB := bs_ hb; clear hb hbox hg; have d6X := kS.out; have d3S := iU.out; obtain ⟨c4Y, cID, cEW, c3Y⟩ := aJ1 cZ; obtain ⟨cH1, cDI, cKC, cLK, c7B, cFQ, cEO, cJ1, cGF, c4U, c2G, c3D, c5U, cF9, c4G, c9Q, c48, c95, cG1, cKO, cJ8, cBU, c2F, c2X⟩ := aBw aU))
          (have n0_ : Aside0 (Kd.R (Kd.int .i64) 3 (b87.setCell ⟨fH, 0, none⟩ (.int .i64 (rd fQ 0))) w.heap.size (fun _ => True) (.slice (some zR) fQ.length cEJ) fQ) := ⟨by (with_reducible repeat (first | apply Kd.aBf | apply Kd.aBg | apply Kd.aBi)); exact Kd.aAw (Kd.aOb (p := ⟨fH, 0, none⟩) bU.out (fun _ hk => hk.2) (.int .i64 (rd fQ 0))) (fun _ hk => trivial)⟩); have n1_ : Aside0 ((b87.setCell ⟨fH, 0, none⟩ (.int .i64 (rd fQ 0))).heap[nU]? = some (.cells #[.int .i64 aA, .string aD, .int .i64 aH, .int .i64 aK, .int .i64 aJ, .int .i64 aI, .string bC, .string bB, .slice dN bG.length dQ, .slice bZ aV.length cB, .int .i64 aW, .slice bP aM.length bM] 42 (0, 0))) := ⟨(aQk iU (aBx aU.out))⟩; (have pO : Aside0 ((b87.setCell ⟨fH, 0, none⟩ (.int .i64 (rd fQ 0))).heap[fH]? = some (.cells #[.int .i64 (rd fQ 0)] 3 (0, 0))) := ⟨by (with_reducible repeat (first | refine aCf ?_ _ | refine aAz ?_ | refine aCh ?_ _)); refine aCr (cs := #[.int .i64 0]) ?_ 0 _ rfl; (with_reducible repeat (first | refine aCf ?_ _ | refine aAz ?_ | refine aCh ?_ _)); exact cZ.out⟩); have n3_ : Aside0 (Below w.heap.size w (b87.setCell ⟨fH, 0, none⟩ (.int .i64 (rd fQ 0)))) := ⟨bb_⟩; (try clear bU); (try clear aU); (try clear cZ); (try clear HB); generalize (b87.setCell ⟨fH, 0, none⟩ (.int .i64 (rd fQ 0))) = cGI at n0_ n1_ pO n3_ ⊢; have bU := n0_; have aU := n1_; have cZ := pO; have HB := n3_; clear n0_ n1_ pO n3_; replace bU := am_ (Kd.aBi bU.out); replace aU := am_ (aAz aU.out); replace cZ := am_ (aAz cZ.out); replace HB := am_ (aAm HB.out); have bZK : 0 ≤ (1 : Int) := (by omega); (have bWJ : 1 < (fQ.length : Int) := oa_); obtain ⟨cJS, d3T, MH⟩ := Kd.aCe (Kd.aAr bU.out).2.2 1 bZK bWJ; obtain rfl : zR = cJS := (by injection d3T); (try simp only [show (1 : Int).toNat = 1 from rfl, Nat.reduceMul, Nat.reduceEqDiff, Go.Addr.add, ↓reduceIte] at MH); have d8P : (1 < fQ.length) = True := eq_true (by omega); (try rw [show ((1 : Int)).toNat = 1 from rfl] at MH); replace bZK := eq_true bZK; replace bWJ := eq_true bWJ; have H := gY.out; clear gY
          by_cases c109 : c2B = true
          ·subst c109
           rw [if_pos rfl] at H; replace H := aBp H; obtain ⟨c4J, bOS, H⟩ := H
           try dsimp only at H
           have N7 := am_ bOS; clear bOS; simp only [Option.some.injEq, Prod.mk.injEq] at H; obtain ⟨rfl, rfl⟩ := H; have bSR : 0 ≤ (1 : Int) := (by omega); (have bRW : 1 < (fQ.length : Int) := oa_); obtain ⟨cF0, d46, VW⟩ := Kd.aCe (Kd.aAr bU.out).2.2 1 bSR bRW; obtain rfl : zR = cF0 := (by injection d46); (try simp only [show (1 : Int).toNat = 1 from rfl, Nat.reduceMul, Nat.reduceEqDiff, Go.Addr.add, ↓reduceIte] at VW); have dBR : (1 < fQ.length) = True := eq_true (by omega); (try rw [show ((1 : Int)).toNat = 1 from rfl] at VW); replace bSR := eq_true bSR; replace bRW := eq_true bRW; (refine st_ 19 (aPe cZ (ht_ (aFh aU (hc_ MH (hf_ VW))))) (fun hHeld => ?_); refine aAv aG.bP2 aG.b6R (fun HT_ HW_ => ?_)); generalize cGI.drew = dDI at bU aU cZ HB MH VW hHeld ⊢; refine aBa 1 (bm 19 2) ?_; refine aBa 2 (bm 19 6) ?_; refine aCx 0 (tf 3 16) ?_; refine tl_ ?_; refine pl_ ?_; refine tl_ ?_; refine aCm (i := 6) (N := some 97) (tf 7 12) (h := fun K hK => ?_); refine gs_ Tryz.func72 #[.agg #[.int .i64 aA, .string aD, .int .i64 aH, .int .i64 aK, .int .i64 aJ, .int .i64 aI, .string bC, .string bB, .slice dN bG.length dQ, .slice bZ aV.length cB, .int .i64 aW, .slice bP aM.length bM], .bool true, .bool false, .bool true, .bool true] ?_; (with_reducible refine (bO.calls _ _ _ _ _ _ _ _ _ _ _ _ _ _ _ _ _ _ _ _ _ _ _ _ _ (cb_ iG HB) iD.out (cb_ iR HB) iZ.out (cb_ jE HB) jR.out cFL.out).mono ?_); rintro e dC4 ⟨rfl, hb⟩; have QO := (hb.cell (World.block_lt_of_cell? _ _ (hHeld.2.2.2.2.2.2.2.2.2.2.2.2.2.2.1))).trans (hHeld.2.2.2.2.2.2.2.2.2.2.2.2.2.2.1); have aGZ := (hb.cell (World.block_lt_of_cell? _ _ (hHeld.2.2.2.2.2.2.2.2.2.2.2.2.2.2.2))).trans (hHeld.2.2.2.2.2.2.2.2.2.2.2.2.2.2.2); refine ⟨_, rfl, ?_⟩; replace bU := am_ (Kd.aAs (rk_ bU.out) hb); replace aU := aAt aU hb; replace cZ := aAt cZ hb; replace HB := bs_ hb; (try clear hb); refine hK.out _ _ (aPe cZ (ht_ (aFh aU (hc_ QO (hf_ aGZ))))) (fun hHeld => ?_)
           clear hK K; refine nm_ ?_; refine aBa 7 (tf 8 11) ?_; refine pl_ ?_; refine aBa 11 (bm 19 2559) ?_; refine aBa 12 (bm 19 6655) ?_; refine aCx 9 (bm 19 7167) ?_; refine aCx 10 (tf 13 6) ?_; refine tl_ ?_; refine pl_ ?_; refine aCm (i := 15) (N := some 106) (tf 16 3) (h := fun K hK => ?_); refine gs_ Tryz.func74 #[.agg #[.int .i64 aH, .int .i64 aK, .int .i64 aJ, .int .i64 aI, .string bC, .string bB, .slice dN bG.length dQ], .int .i64 (wrap64 ((rd fQ 0) + (rd fQ 1)))] ?_; (with_reducible refine (iI.calls _ _ _ _ _ _ _ _ _ _ _ _ _ (cb_ iG HB) iD.out N7.out).mono ?_); rintro e dCT ⟨rfl, hb⟩; have QO := (hb.cell (World.block_lt_of_cell? _ _ (hHeld.2.2.2.2.2.2.2.2.2.2.2.2.2.2.1))).trans (hHeld.2.2.2.2.2.2.2.2.2.2.2.2.2.2.1); have aGZ := (hb.cell (World.block_lt_of_cell? _ _ (hHeld.2.2.2.2.2.2.2.2.2.2.2.2.2.2.2))).trans (hHeld.2.2.2.2.2.2.2.2.2.2.2.2.2.2.2); refine ⟨_, rfl, ?_⟩; replace bU := am_ (Kd.aAs (rk_ bU.out) hb); replace aU := aAt aU hb; replace cZ := aAt cZ hb; replace HB := bs_ hb; (try clear hb); refine hK.out _ _ (aPe cZ (ht_ (aFh aU (hc_ QO (hf_ aGZ))))) (fun hHeld => ?_); clear hK K; refine nm_ ?_; refine aBa 16 (tf 17 2) ?_
           iterate 2 (refine pl_ ?_)
           refine dn_ ?_
           try go_wp2
           go_ret2
           exact ⟨er_, bb_⟩
          ·replace c109 := Bool.eq_false_iff.mpr c109
           subst c109; replace H := aZf H; simp only [Option.some.injEq, Prod.mk.injEq] at H; obtain ⟨rfl, rfl⟩ := H; (refine st_ 19 (aPe cZ (ht_ (aFh aU (hf_ MH)))) (fun hHeld => ?_); refine aAv aG.bP2 aG.b6R (fun HT_ HW_ => ?_)); generalize cGI.drew = dCM at bU aU cZ HB MH hHeld ⊢; refine aBa 1 (bm 19 2) ?_; refine aBa 2 (bm 19 6) ?_; refine aCx 0 (tf 3 16) ?_; refine tl_ ?_; refine pl_ ?_; refine tl_ ?_; refine aCm (i := 6) (N := some 97) (tf 7 12) (h := fun K hK => ?_); refine gs_ Tryz.func72 #[.agg #[.int .i64 aA, .string aD, .int .i64 aH, .int .i64 aK, .int .i64 aJ, .int .i64 aI, .string bC, .string bB, .slice dN bG.length dQ, .slice bZ aV.length cB, .int .i64 aW, .slice bP aM.length bM], .bool true, .bool false, .bool true, .bool true] ?_; (with_reducible refine (bO.calls _ _ _ _ _ _ _ _ _ _ _ _ _ _ _ _ _ _ _ _ _ _ _ _ _ (cb_ iG HB) iD.out (cb_ iR HB) iZ.out (cb_ jE HB) jR.out cFL.out).mono ?_); rintro e dCU ⟨rfl, hb⟩; have QO := (hb.cell (World.block_lt_of_cell? _ _ (hHeld.2.2.2.2.2.2.2.2.2.2.2.2.2.2))).trans (hHeld.2.2.2.2.2.2.2.2.2.2.2.2.2.2); refine ⟨_, rfl, ?_⟩; replace bU := am_ (Kd.aAs (rk_ bU.out) hb); replace aU := aAt aU hb; replace cZ := aAt cZ hb; replace HB := bs_ hb; (try clear hb); refine hK.out _ _ (aPe cZ (ht_ (aFh aU (hf_ QO)))) (fun hHeld => ?_); clear hK K; refine nm_ ?_; refine aBa 7 (tf 8 11) ?_
           iterate 8 (refine pd_ ?_)
           iterate 3 (refine pl_ ?_)
           refine dn_ ?_
           try go_wp2
           go_ret2
           exact ⟨er_, bb_⟩
         ·rw [if_neg c107] at H
          exact nn_ H
        ·rw [if_neg NQ] at H
         have aJM : (aA == 3) = false := beq_eq_false_iff_ne.mpr NQ; have aIS : (aA != 3) = true := bne_iff_ne.mpr NQ
         by_cases aJO : aA = 4
         ·rw [if_pos aJO] at H
          have bWT : (aA == 4) = true := beq_iff_eq.mpr aJO; have bVX : (aA != 4) = false := bne_eq_false_iff_eq.mpr aJO; clear aJO; replace H := aBp H; obtain ⟨bWO, bPY, H⟩ := H
          try dsimp only at H
          have cHF := am_ bPY; clear bPY; have gY := am_ H; clear H
          try go_wp2_with (first | ((with_reducible refine aAa (f := 73) rfl ?_); refine aBh (some 49) Tryz.func73 #[.agg #[.int .i64 aA, .string aD, .int .i64 aH, .int .i64 aK, .int .i64 aJ, .int .i64 aI, .string bC, .string bB, .slice dN bG.length dQ, .slice bZ aV.length cB, .int .i64 aW, .slice bP aM.length bM], .slice A1 l1.length c1, .int .i64 a2, .int .i64 ZH] ?_; (with_reducible refine (dG.calls E_ UC _ _ _ _ _ _ _ _ _ _ _ _ _ _ _ _ _ _ _ _ _ _ _ _ _ _ _ (cb_ iG HB) iD.out (cb_ iR HB) iZ.out (cb_ jE HB) jR.out (cb_ HR1 HB) MZ.out A42.out).mono ?_); rintro e dDV ⟨aJN, rfl, ho0, hb⟩; refine ⟨_, rfl, ?_⟩; have bU := am_ (Kd.aBc ho0 (aAj bb_)); replace aU := aAt aU hb; replace HB := bs_ hb; clear hb ho0; obtain ⟨d96, c5P, cHY⟩ := Kd.aBj bU.out; subst cHY; have uW : 0 ≤ (0 : Int) := (by omega); have uR : 0 < (fQ.length : Int) := oa_; obtain ⟨zR, SV, kD⟩ := Kd.aCe (Kd.aAr bU.out).2.2 0 uW uR; cases SV; have a1F : (0 < fQ.length) = True := eq_true (by omega); (try rw [show ((0 : Int)).toNat = 0 from rfl] at kD); (try rw [Addr.add_zero'] at kD); replace uW := eq_true uW; replace uR := eq_true uR) | ((with_reducible refine aAc (N := 13) rfl ?_); (try (refine aAn (by rfl) ?_; dsimp only)); refine bx_ 13 #[.int .i64 0] 3 ?_; intro fH hg b4Y hbox hb; have cZ := am_ (hbox); have a0T := gw_ hg; have iU := nl_ hg aU; have kS := ng_ hg aU; have q0_ := am_ (Kd.aAs (Kd.aAw (Kd.aCv (rk_ bU.out)) (fun k_ h_ => (⟨trivial, by rw [hg]; exact Nat.ne_of_lt h_.2.2.1⟩ : True ∧ k_ ≠ fH))) hb); clear bU; have bU := q0_; clear q0_; replace aU := aAt aU hb; replace HB := bs_ hb; clear hb hbox hg; have d76 := kS.out; have d42 := iU.out; obtain ⟨c3H, cAL, c4H, cKX⟩ := aJ1 cZ; obtain ⟨c4K, cG2, cEP, cJT, cIC, cGV, c9M, c5F, c4L, c5H, c2O, c2P, cMM, c4B, c9I, cIA, c4O, cCF, cH6, cD1, c9P, cGQ, c2H, c2Z⟩ := aBw aU))
          (have n0_ : Aside0 (Kd.R (Kd.int .i64) 3 (b4Y.setCell ⟨fH, 0, none⟩ (.int .i64 (rd fQ 0))) w.heap.size (fun _ => True) (.slice (some zR) fQ.length c5P) fQ) := ⟨by (with_reducible repeat (first | apply Kd.aBf | apply Kd.aBg | apply Kd.aBi)); exact Kd.aAw (Kd.aOb (p := ⟨fH, 0, none⟩) bU.out (fun _ hk => hk.2) (.int .i64 (rd fQ 0))) (fun _ hk => trivial)⟩); have n1_ : Aside0 ((b4Y.setCell ⟨fH, 0, none⟩ (.int .i64 (rd fQ 0))).heap[nU]? = some (.cells #[.int .i64 aA, .string aD, .int .i64 aH, .int .i64 aK, .int .i64 aJ, .int .i64 aI, .string bC, .string bB, .slice dN bG.length dQ, .slice bZ aV.length cB, .int .i64 aW, .slice bP aM.length bM] 42 (0, 0))) := ⟨(aQk iU (aBx aU.out))⟩; (have pO : Aside0 ((b4Y.setCell ⟨fH, 0, none⟩ (.int .i64 (rd fQ 0))).heap[fH]? = some (.cells #[.int .i64 (rd fQ 0)] 3 (0, 0))) := ⟨by (with_reducible repeat (first | refine aCf ?_ _ | refine aAz ?_ | refine aCh ?_ _)); refine aCr (cs := #[.int .i64 0]) ?_ 0 _ rfl; (with_reducible repeat (first | refine aCf ?_ _ | refine aAz ?_ | refine aCh ?_ _)); exact cZ.out⟩); have n3_ : Aside0 (Below w.heap.size w (b4Y.setCell ⟨fH, 0, none⟩ (.int .i64 (rd fQ 0)))) := ⟨bb_⟩; (try clear bU); (try clear aU); (try clear cZ); (try clear HB); generalize (b4Y.setCell ⟨fH, 0, none⟩ (.int .i64 (rd fQ 0))) = bS9 at n0_ n1_ pO n3_ ⊢; have bU := n0_; have aU := n1_; have cZ := pO; have HB := n3_; clear n0_ n1_ pO n3_; replace bU := am_ (Kd.aBi bU.out); replace aU := am_ (aAz aU.out); replace cZ := am_ (aAz cZ.out); replace HB := am_ (aAm HB.out); have H := gY.out; clear gY
          by_cases bKP : bWO = true
          ·subst bKP
           rw [if_pos rfl] at H
           by_cases bNL : 1 < (fQ.length : Int)
           ·rw [if_pos bNL] at H
            have d3V := decide_eq_true bNL; have d4C : decide (1 < fQ.length) = true := decide_eq_true (by omega); clear bNL; simp only [Option.some.injEq, Prod.mk.injEq] at H; obtain ⟨rfl, rfl⟩ := H; have bZM : 0 ≤ (1 : Int) := (by omega); (have bW7 : 1 < (fQ.length : Int) := oa_); obtain ⟨cLU, d5W, VV⟩ := Kd.aCe (Kd.aAr bU.out).2.2 1 bZM bW7; obtain rfl : zR = cLU := (by injection d5W); (try simp only [show (1 : Int).toNat = 1 from rfl, Nat.reduceMul, Nat.reduceEqDiff, Go.Addr.add, ↓reduceIte] at VV); have dA9 : (1 < fQ.length) = True := eq_true (by omega); (try rw [show ((1 : Int)).toNat = 1 from rfl] at VV); replace bZM := eq_true bZM; replace bW7 := eq_true bW7; (refine st_ 12 (aPe cZ (ht_ (aFh aU (hf_ VV)))) (fun hHeld => ?_); refine aAv aG.bQ1 aG.b2Q (fun HT_ HW_ => ?_)); generalize bS9.drew = dC6 at bU aU cZ HB VV hHeld ⊢
            iterate 2 (refine tl_ ?_)
            refine aCm (i := 2) (N := some 112) (tf 3 9) (h := fun K hK => ?_); refine gs_ Tryz.func72 #[.agg #[.int .i64 aA, .string aD, .int .i64 aH, .int .i64 aK, .int .i64 aJ, .int .i64 aI, .string bC, .string bB, .slice dN bG.length dQ, .slice bZ aV.length cB, .int .i64 aW, .slice bP aM.length bM], .bool true, .bool true, .bool true, .bool true] ?_; (with_reducible refine (bO.calls _ _ _ _ _ _ _ _ _ _ _ _ _ _ _ _ _ _ _ _ _ _ _ _ _ (cb_ iG HB) iD.out (cb_ iR HB) iZ.out (cb_ jE HB) jR.out cHF.out).mono ?_); rintro e dDR ⟨rfl, hb⟩; have QO := (hb.cell (World.block_lt_of_cell? _ _ (hHeld.2.2.2.2.2.2.2.2.2.2.2.2.2.2))).trans (hHeld.2.2.2.2.2.2.2.2.2.2.2.2.2.2); refine ⟨_, rfl, ?_⟩; replace bU := am_ (Kd.aAs (rk_ bU.out) hb); replace aU := aAt aU hb; replace cZ := aAt cZ hb; replace HB := bs_ hb; (try clear hb); refine hK.out _ _ (aPe cZ (ht_ (aFh aU (hf_ QO)))) (fun hHeld => ?_); clear hK K; refine nm_ ?_; refine aBa 3 (tf 4 8) ?_; refine aBa 5 (bm 12 47) ?_; refine aBa 6 (bm 12 111) ?_; refine aBa 10 (bm 12 1135) ?_; refine aCx 4 (bm 12 1151) ?_; refine aCx 7 (bm 12 1279) ?_; refine aBa 8 (bm 12 1535) ?_; refine aBa 9 (tf 11 1) ?_; refine pl_ ?_; refine dn_ ?_
            try go_wp2
            go_ret2
            exact ⟨er_, bb_⟩
           ·rw [if_neg bNL] at H
            exact nn_ H
          ·replace bKP := Bool.eq_false_iff.mpr bKP
           subst bKP; replace H := aZf H; simp only [Option.some.injEq, Prod.mk.injEq] at H; obtain ⟨rfl, rfl⟩ := H; (refine st_ 12 (aPe cZ (ht_ (aEm aU))) (fun hHeld => ?_); refine aAv aG.bQ1 aG.b2Q (fun HT_ HW_ => ?_)); generalize bS9.drew = dCR at bU aU cZ HB hHeld ⊢
           iterate 2 (refine tl_ ?_)
           refine aCm (i := 2) (N := some 112) (tf 3 9) (h := fun K hK => ?_); refine gs_ Tryz.func72 #[.agg #[.int .i64 aA, .string aD, .int .i64 aH, .int .i64 aK, .int .i64 aJ, .int .i64 aI, .string bC, .string bB, .slice dN bG.length dQ, .slice bZ aV.length cB, .int .i64 aW, .slice bP aM.length bM], .bool true, .bool true, .bool true, .bool true] ?_; (with_reducible refine (bO.calls _ _ _ _ _ _ _ _ _ _ _ _ _ _ _ _ _ _ _ _ _ _ _ _ _ (cb_ iG HB) iD.out (cb_ iR HB) iZ.out (cb_ jE HB) jR.out cHF.out).mono ?_); rintro e dCK ⟨rfl, hb⟩; refine ⟨_, rfl, ?_⟩; replace bU := am_ (Kd.aAs (rk_ bU.out) hb); replace aU := aAt aU hb; replace cZ := aAt cZ hb; replace HB := bs_ hb; (try clear hb); refine hK.out _ _ (aPe cZ (ht_ (aEm aU))) (fun hHeld => ?_); clear hK K; refine nm_ ?_; refine aBa 3 (tf 4 8) ?_
           iterate 5 (refine pd_ ?_)
           iterate 3 (refine pl_ ?_)
           refine dn_ ?_
           try go_wp2
           go_ret2
           exact ⟨er_, bb_⟩
         ·rw [if_neg aJO] at H
          have bWT : (aA == 4) = false := beq_eq_false_iff_ne.mpr aJO; have bVX : (aA != 4) = true := bne_iff_ne.mpr aJO
          by_cases c156 : aA = 5
          ·rw [if_pos c156] at H
           have c0Z : (aA == 5) = true := beq_iff_eq.mpr c156; have bXL : (aA != 5) = false := bne_eq_false_iff_eq.mpr c156; clear c156; replace H := aBp H; obtain ⟨c77, bP3, H⟩ := H
           try dsimp only at H
           have d6C := am_ bP3; clear bP3; simp only [Option.some.injEq, Prod.mk.injEq] at H; obtain ⟨rfl, rfl⟩ := H
           try go_wp2_with (first | ((with_reducible refine aAa (f := 73) rfl ?_); refine aBh (some 49) Tryz.func73 #[.agg #[.int .i64 aA, .string aD, .int .i64 aH, .int .i64 aK, .int .i64 aJ, .int .i64 aI, .string bC, .string bB, .slice dN bG.length dQ, .slice bZ aV.length cB, .int .i64 aW, .slice bP aM.length bM], .slice A1 l1.length c1, .int .i64 a2, .int .i64 ZH] ?_; (with_reducible refine (dG.calls E_ UC _ _ _ _ _ _ _ _ _ _ _ _ _ _ _ _ _ _ _ _ _ _ _ _ _ _ _ (cb_ iG HB) iD.out (cb_ iR HB) iZ.out (cb_ jE HB) jR.out (cb_ HR1 HB) MZ.out A42.out).mono ?_); rintro e dDG ⟨aJN, rfl, ho0, hb⟩; refine ⟨_, rfl, ?_⟩; have bU := am_ (Kd.aBc ho0 (aAj bb_)); replace aU := aAt aU hb; replace HB := bs_ hb; clear hb ho0; obtain ⟨dAQ, cJO, cGL⟩ := Kd.aBj bU.out; subst cGL; have uW : 0 ≤ (0 : Int) := (by omega); have uR : 0 < (fQ.length : Int) := oa_; obtain ⟨zR, SV, kD⟩ := Kd.aCe (Kd.aAr bU.out).2.2 0 uW uR; cases SV; have a1F : (0 < fQ.length) = True := eq_true (by omega); (try rw [show ((0 : Int)).toNat = 0 from rfl] at kD); (try rw [Addr.add_zero'] at kD); replace uW := eq_true uW; replace uR := eq_true uR) | ((with_reducible refine aAc (N := 13) rfl ?_); (try (refine aAn (by rfl) ?_; dsimp only)); refine bx_ 13 #[.int .i64 0] 3 ?_; intro fH hg b9V hbox hb; have cZ := am_ (hbox); have a0T := gw_ hg; have iU := nl_ hg aU; have kS := ng_ hg aU; have q0_ := am_ (Kd.aAs (Kd.aAw (Kd.aCv (rk_ bU.out)) (fun k_ h_ => (⟨trivial, by rw [hg]; exact Nat.ne_of_lt h_.2.2.1⟩ : True ∧ k_ ≠ fH))) hb); clear bU; have bU := q0_; clear q0_; replace aU := aAt aU hb; replace HB := bs_ hb; clear hb hbox hg; have d3R := kS.out; have d6J := iU.out; obtain ⟨cCN, cAB, c78, cKW⟩ := aJ1 cZ; obtain ⟨cCZ, cG0, c7Z, cBI, cMP, cH4, c6U, cD4, cKM, cBD, c2T, c3E, cLV, cED, c4Q, cJA, cF4, cK4, cLD, cGZ, cBA, cKU, c2J, c2D⟩ := aBw aU))
           (have n0_ : Aside0 (Kd.R (Kd.int .i64) 3 (b9V.setCell ⟨fH, 0, none⟩ (.int .i64 (rd fQ 0))) w.heap.size (fun _ => True) (.slice (some zR) fQ.length cJO) fQ) := ⟨by (with_reducible repeat (first | apply Kd.aBf | apply Kd.aBg | apply Kd.aBi)); exact Kd.aAw (Kd.aOb (p := ⟨fH, 0, none⟩) bU.out (fun _ hk => hk.2) (.int .i64 (rd fQ 0))) (fun _ hk => trivial)⟩); have n1_ : Aside0 ((b9V.setCell ⟨fH, 0, none⟩ (.int .i64 (rd fQ 0))).heap[nU]? = some (.cells #[.int .i64 aA, .string aD, .int .i64 aH, .int .i64 aK, .int .i64 aJ, .int .i64 aI, .string bC, .string bB, .slice dN bG.length dQ, .slice bZ aV.length cB, .int .i64 aW, .slice bP aM.length bM] 42 (0, 0))) := ⟨(aQk iU (aBx aU.out))⟩; (have pO : Aside0 ((b9V.setCell ⟨fH, 0, none⟩ (.int .i64 (rd fQ 0))).heap[fH]? = some (.cells #[.int .i64 (rd fQ 0)] 3 (0, 0))) := ⟨by (with_reducible repeat (first | refine aCf ?_ _ | refine aAz ?_ | refine aCh ?_ _)); refine aCr (cs := #[.int .i64 0]) ?_ 0 _ rfl; (with_reducible repeat (first | refine aCf ?_ _ | refine aAz ?_ | refine aCh ?_ _)); exact cZ.out⟩); have n3_ : Aside0 (Below w.heap.size w (b9V.setCell ⟨fH, 0, none⟩ (.int .i64 (rd fQ 0)))) := ⟨bb_⟩; (try clear bU); (try clear aU); (try clear cZ); (try clear HB); generalize (b9V.setCell ⟨fH, 0, none⟩ (.int .i64 (rd fQ 0))) = d66 at n0_ n1_ pO n3_ ⊢; have bU := n0_; have aU := n1_; have cZ := pO; have HB := n3_; clear n0_ n1_ pO n3_; replace bU := am_ (Kd.aBi bU.out); replace aU := am_ (aAz aU.out); replace cZ := am_ (aAz cZ.out); replace HB := am_ (aAm HB.out); (refine st_ 5 (aPe cZ (ht_ (aEm aU))) (fun hHeld => ?_)); generalize d66.drew = dE7 at bU aU cZ HB hHeld ⊢; refine aJy (i := 0) (N := some 122) (v := ?_) (a' := ?_) (tf 1 4) rfl rfl (by kernel_rfl) (fun _ _ _ h => h) (Or.inl ⟨by rfl, ?_⟩) hHeld ?_ ?_; rotate_left
           ·rintro w' ⟨s0, s1, s2, s3, s4, s5, s6, s7, s8, s9, s10, s11, s12, s13⟩
            go_simp
            with_reducible rfl
           rotate_left
           ·simp only [Act.put, List.setIfInBounds_toArray, List.set_cons_zero, List.set_cons_succ, aCj, aCw]
            rfl
           refine aJy (i := 1) (N := some 123) (v := ?_) (a' := ?_) (tf 2 3) rfl rfl (by kernel_rfl) (fun _ _ _ h => h) (Or.inl ⟨by rfl, ?_⟩) hHeld ?_ ?_; rotate_left
           ·rintro w' ⟨s0, s1, s2, s3, s4, s5, s6, s7, s8, s9, s10, s11, s12, s13⟩
            go_simp
            with_reducible rfl
           rotate_left
           ·simp only [Act.put, List.setIfInBounds_toArray, List.set_cons_zero, List.set_cons_succ, aCj, aCw]
            rfl
           refine aYa (i := 2) (N := some 124) (tf 3 2) rfl rfl (by kernel_rfl) (by decide) (fun K hK => ?_); refine gs_ Tryz.func72 #[.agg #[.int .i64 aA, .string aD, .int .i64 aH, .int .i64 aK, .int .i64 aJ, .int .i64 aI, .string bC, .string bB, .slice dN bG.length dQ, .slice bZ aV.length cB, .int .i64 aW, .slice bP aM.length bM], .bool true, .bool true, .bool true, .bool true] ?_; (with_reducible refine (bO.calls _ _ _ _ _ _ _ _ _ _ _ _ _ _ _ _ _ _ _ _ _ _ _ _ _ (cb_ iG HB) iD.out (cb_ iR HB) iZ.out (cb_ jE HB) jR.out d6C.out).mono ?_); rintro e dDA ⟨rfl, hb⟩; refine ⟨_, rfl, ?_⟩; replace bU := am_ (Kd.aAs (rk_ bU.out) hb); replace aU := aAt aU hb; replace cZ := aAt cZ hb; replace HB := bs_ hb; (try clear hb); refine hK.out _ _ (aPe cZ (ht_ (aEm aU))) (fun hHeld => ?_); clear hK K; refine nm_ ?_; refine aIl (i := 3) (N := some 6) (v := ?_) (a' := ?_) (tf 4 1) rfl rfl (by kernel_rfl) (fun _ _ _ h => h) (Or.inl ⟨by rfl, ?_⟩) ?_ ?_; rotate_left
           ·intro w'
            go_simp
            with_reducible rfl
           rotate_left
           ·simp only [Act.put, List.setIfInBounds_toArray, List.set_cons_zero, List.set_cons_succ, aCj, aCw]
            rfl
           refine aIl (i := 4) (N := some 7) (v := ?_) (a' := ?_) (tf 5 0) rfl rfl (by kernel_rfl) (fun _ _ _ h => h) (Or.inl ⟨by rfl, ?_⟩) ?_ ?_; rotate_left
           ·intro w'
            go_simp
            with_reducible rfl
           rotate_left
           ·simp only [Act.put, List.setIfInBounds_toArray, List.set_cons_zero, List.set_cons_succ, aCj, aCw]
            rfl
           refine aHl (by kernel_rfl) ?_
           try go_wp2
           go_ret2
           exact ⟨er_, bb_⟩
          ·rw [if_neg c156] at H
           have c0Z : (aA == 5) = false := beq_eq_false_iff_ne.mpr c156; have bXL : (aA != 5) = true := bne_iff_ne.mpr c156
           by_cases c168 : aA = 6
           ·rw [if_pos c168] at H
            have bSY : (aA == 6) = true := beq_iff_eq.mpr c168; have bU7 : (aA != 6) = false := bne_eq_false_iff_eq.mpr c168; clear c168; replace H := aBp H; obtain ⟨bZ4, bRA, H⟩ := H
            try dsimp only at H
            have cH2 := am_ bRA; clear bRA; have gY := am_ H; clear H
            try go_wp2_with (first | ((with_reducible refine aAa (f := 73) rfl ?_); refine aBh (some 49) Tryz.func73 #[.agg #[.int .i64 aA, .string aD, .int .i64 aH, .int .i64 aK, .int .i64 aJ, .int .i64 aI, .string bC, .string bB, .slice dN bG.length dQ, .slice bZ aV.length cB, .int .i64 aW, .slice bP aM.length bM], .slice A1 l1.length c1, .int .i64 a2, .int .i64 ZH] ?_; (with_reducible refine (dG.calls E_ UC _ _ _ _ _ _ _ _ _ _ _ _ _ _ _ _ _ _ _ _ _ _ _ _ _ _ _ (cb_ iG HB) iD.out (cb_ iR HB) iZ.out (cb_ jE HB) jR.out (cb_ HR1 HB) MZ.out A42.out).mono ?_); rintro e dC2 ⟨aJN, rfl, ho0, hb⟩; refine ⟨_, rfl, ?_⟩; have bU := am_ (Kd.aBc ho0 (aAj bb_)); replace aU := aAt aU hb; replace HB := bs_ hb; clear hb ho0; obtain ⟨d8O, cHN, c9G⟩ := Kd.aBj bU.out; subst c9G; have uW : 0 ≤ (0 : Int) := (by omega); have uR : 0 < (fQ.length : Int) := oa_; obtain ⟨zR, SV, kD⟩ := Kd.aCe (Kd.aAr bU.out).2.2 0 uW uR; cases SV; have a1F : (0 < fQ.length) = True := eq_true (by omega); (try rw [show ((0 : Int)).toNat = 0 from rfl] at kD); (try rw [Addr.add_zero'] at kD); replace uW := eq_true uW; replace uR := eq_true uR) | ((with_reducible refine aAc (N := 13) rfl ?_); (try (refine aAn (by rfl) ?_; dsimp only)); refine bx_ 13 #[.int .i64 0] 3 ?_; intro fH hg b39 hbox hb; have cZ := am_ (hbox); have a0T := gw_ hg; have iU := nl_ hg aU; have kS := ng_ hg aU; have q0_ := am_ (Kd.aAs (Kd.aAw (Kd.aCv (rk_ bU.out)) (fun k_ h_ => (⟨trivial, by rw [hg]; exact Nat.ne_of_lt h_.2.2.1⟩ : True ∧ k_ ≠ fH))) hb); clear bU; have bU := q0_; clear q0_; replace aU := aAt aU hb; replace HB := bs_ hb; clear hb hbox hg; have d6H := kS.out; have d2I := iU.out; obtain ⟨cGH, c5A, cDX, cFJ⟩ := aJ1 cZ; obtain ⟨c3L, cKI, cCC, c88, cAO, cE9, c4F, cB4, cJD, cGJ, c2N, c3B, cBZ, cKG, c7C, c7L, c3T, cGW, cHA, cGA, c54, c6R, c2I, c2Q⟩ := aBw aU))
            (have n0_ : Aside0 (Kd.R (Kd.int .i64) 3 (b39.setCell ⟨fH, 0, none⟩ (.int .i64 (rd fQ 0))) w.heap.size (fun _ => True) (.slice (some zR) fQ.length cHN) fQ) := ⟨by (with_reducible repeat (first | apply Kd.aBf | apply Kd.aBg | apply Kd.aBi)); exact Kd.aAw (Kd.aOb (p := ⟨fH, 0, none⟩) bU.out (fun _ hk => hk.2) (.int .i64 (rd fQ 0))) (fun _ hk => trivial)⟩); have n1_ : Aside0 ((b39.setCell ⟨fH, 0, none⟩ (.int .i64 (rd fQ 0))).heap[nU]? = some (.cells #[.int .i64 aA, .string aD, .int .i64 aH, .int .i64 aK, .int .i64 aJ, .int .i64 aI, .string bC, .string bB, .slice dN bG.length dQ, .slice bZ aV.length cB, .int .i64 aW, .slice bP aM.length bM] 42 (0, 0))) := ⟨(aQk iU (aBx aU.out))⟩; (have pO : Aside0 ((b39.setCell ⟨fH, 0, none⟩ (.int .i64 (rd fQ 0))).heap[fH]? = some (.cells #[.int .i64 (rd fQ 0)] 3 (0, 0))) := ⟨by (with_reducible repeat (first | refine aCf ?_ _ | refine aAz ?_ | refine aCh ?_ _)); refine aCr (cs := #[.int .i64 0]) ?_ 0 _ rfl; (with_reducible repeat (first | refine aCf ?_ _ | refine aAz ?_ | refine aCh ?_ _)); exact cZ.out⟩); have n3_ : Aside0 (Below w.heap.size w (b39.setCell ⟨fH, 0, none⟩ (.int .i64 (rd fQ 0)))) := ⟨bb_⟩; (try clear bU); (try clear aU); (try clear cZ); (try clear HB); generalize (b39.setCell ⟨fH, 0, none⟩ (.int .i64 (rd fQ 0))) = cDV at n0_ n1_ pO n3_ ⊢; have bU := n0_; have aU := n1_; have cZ := pO; have HB := n3_; clear n0_ n1_ pO n3_; replace bU := am_ (Kd.aBi bU.out); replace aU := am_ (aAz aU.out); replace cZ := am_ (aAz cZ.out); replace HB := am_ (aAm HB.out); have H := gY.out; clear gY
            by_cases bC2 : bZ4 = true
            ·subst bC2
             rw [if_pos rfl] at H; replace H := aBp H; obtain ⟨bV4, bP7, H⟩ := H
             try dsimp only at H
             have d3W := am_ bP7; clear bP7; have gY := am_ H; clear H; (refine aOt (n := 29) (S := fun w' => w'.cell? ⟨nU, 0, none⟩ = some (.int .i64 aA) ∧ w'.cell? ⟨nU, 1, none⟩ = some (.string aD) ∧ w'.cell? ⟨nU, 2, none⟩ = some (.int .i64 aH) ∧ w'.cell? ⟨nU, 3, none⟩ = some (.int .i64 aK) ∧ w'.cell? ⟨nU, 4, none⟩ = some (.int .i64 aJ) ∧ w'.cell? ⟨nU, 5, none⟩ = some (.int .i64 aI) ∧ w'.cell? ⟨nU, 6, none⟩ = some (.string bC) ∧ w'.cell? ⟨nU, 7, none⟩ = some (.string bB) ∧ w'.cell? ⟨nU, 8, none⟩ = some (.slice dN bG.length dQ) ∧ w'.cell? ⟨nU, 9, none⟩ = some (.slice bZ aV.length cB) ∧ w'.cell? ⟨nU, 10, none⟩ = some (.int .i64 aW) ∧ w'.cell? ⟨nU, 11, none⟩ = some (.slice bP aM.length bM) ∧ w'.cell? ⟨fH, 0, none⟩ = some (.int .i64 (rd fQ 0)) ∧ True) (ds := []) (tf 0 29) (by kernel_rfl) rfl rfl ⟨bc_ aU 0, bc_ aU 1, bc_ aU 2, bc_ aU 3, bc_ aU 4, bc_ aU 5, bc_ aU 6, bc_ aU 7, bc_ aU 8, bc_ aU 9, bc_ aU 10, bc_ aU 11, bc_ cZ 0, trivial⟩ (fun hHeld => ?_); refine aAv aG.bQ4 aG.b9W (fun HT_ HW_ => ?_)); generalize cDV.drew = dDS at bU aU cZ HB hHeld ⊢; refine pl_ ?_; refine aBa 3 (bm 29 9) ?_; refine aCx 1 (bm 29 11) ?_; refine aBa 2 (tf 4 25) ?_; refine tl_ ?_
             iterate 2 (refine pl_ ?_)
             refine tl_ ?_; refine aCm (i := 8) (N := some 135) (tf 9 20) (h := fun K hK => ?_); refine gs_ Tryz.func72 #[.agg #[.int .i64 aA, .string aD, .int .i64 aH, .int .i64 aK, .int .i64 aJ, .int .i64 aI, .string bC, .string bB, .slice dN bG.length dQ, .slice bZ aV.length cB, .int .i64 aW, .slice bP aM.length bM], .bool true, .bool true, .bool false, .bool false] ?_; (with_reducible refine (bO.calls _ _ _ _ _ _ _ _ _ _ _ _ _ _ _ _ _ _ _ _ _ _ _ _ _ (cb_ iG HB) iD.out (cb_ iR HB) iZ.out (cb_ jE HB) jR.out cH2.out).mono ?_); rintro e dCS ⟨rfl, hb⟩; refine ⟨_, rfl, ?_⟩; replace bU := am_ (Kd.aAs (rk_ bU.out) hb); replace aU := aAt aU hb; replace cZ := aAt cZ hb; replace HB := bs_ hb; (try clear hb); refine hK.out _ _ ⟨bc_ aU 0, bc_ aU 1, bc_ aU 2, bc_ aU 3, bc_ aU 4, bc_ aU 5, bc_ aU 6, bc_ aU 7, bc_ aU 8, bc_ aU 9, bc_ aU 10, bc_ aU 11, bc_ cZ 0, trivial⟩ (fun hHeld => ?_); clear hK K; refine nm_ ?_; refine aBa 9 (tf 10 19) ?_; refine pl_ ?_
             iterate 2 (refine tl_ ?_)
             refine aCm (i := 13) (N := some 140) (tf 14 15) (h := fun K hK => ?_); refine gs_ Tryz.func77 #[.int .i64 aW, .int .i64 0, .int .i64 (rd fQ 0)] ?_; (with_reducible refine (dF.calls _ _ _ _ _ d3W.out).mono ?_); rintro e w' ⟨rfl, ⟨nd, rfl⟩⟩; refine ⟨_, rfl, ?_⟩; refine hK.out _ _ ⟨bc_ aU 0, bc_ aU 1, bc_ aU 2, bc_ aU 3, bc_ aU 4, bc_ aU 5, bc_ aU 6, bc_ aU 7, bc_ aU 8, bc_ aU 9, bc_ aU 10, bc_ aU 11, bc_ cZ 0, trivial⟩ (fun hHeld => ?_); clear hK K; refine nm_ ?_; have H := gY.out; clear gY
             by_cases bIY : bV4 = true
             ·subst bIY
              rw [if_pos rfl] at H
              by_cases c173 : (aV.length : Int) ≤ 1
              ·rw [if_pos c173] at H
               have bZO := decide_eq_true c173; have c1X : decide (aV.length ≤ 1) = true := decide_eq_true (by omega); clear c173; replace H := aBp H; obtain ⟨c07, bQL, H⟩ := H
               try dsimp only at H
               have d5H := am_ bQL; clear bQL; simp only [Option.some.injEq, Prod.mk.injEq] at H; obtain ⟨rfl, rfl⟩ := H; refine aBa 14 (tf 15 14) ?_
               iterate 2 (refine pl_ ?_)
               refine tl_ ?_
               iterate 5 (refine pl_ ?_)
               refine aBa 24 (bm 29 25165823) ?_; refine aCx 23 (tf 25 4) ?_; refine aCm (i := 25) (N := some 152) (tf 26 3) (h := fun K hK => ?_); refine gs_ Tryz.func75 #[.slice bZ aV.length cB, .func (.func 78) #[] #[.pointer (some ⟨fH, 0, none⟩)]] ?_; (with_reducible refine (AO.calls (fun x => iI.f kj5 x.f0 x.f1 x.f2.f0 x.f2.f1 x.f2.f2 x.f3 x.f4 (rd fQ 0)) 78 #[.pointer (some ⟨fH, 0, none⟩)] a6U _ _ aV c07 _ ?fM ?fO ?iN).mono ?_); (case fM => exact ck_ (Kd.aAp iR.out bb_)); (case fO => exact a7C kj5 (rd fQ 0) fH aV _ (aEt (aBx cZ.out)) ((cell_of_block (aBx cZ.out) 0).trans rfl)); (case iN => exact d5H.out); rintro e dCX ⟨rfl, hb⟩; refine ⟨_, rfl, ?_⟩; replace bU := am_ (Kd.aAs (rk_ bU.out) hb); replace aU := aAt aU hb; replace cZ := aAt cZ hb; replace HB := bs_ hb; (try clear hb); refine hK.out _ _ ⟨bc_ aU 0, bc_ aU 1, bc_ aU 2, bc_ aU 3, bc_ aU 4, bc_ aU 5, bc_ aU 6, bc_ aU 7, bc_ aU 8, bc_ aU 9, bc_ aU 10, bc_ aU 11, bc_ cZ 0, trivial⟩ (fun hHeld => ?_); clear hK K; refine nm_ ?_; refine aBa 26 (tf 27 2) ?_
               iterate 2 (refine pl_ ?_)
               refine dn_ ?_
               try go_wp2
               go_ret2
               exact ⟨er_, bb_⟩
              ·rw [if_neg c173] at H
               have bZO := decide_eq_false c173; have c1X : decide (aV.length ≤ 1) = false := decide_eq_false (by omega); clear c173; simp only [Option.some.injEq, Prod.mk.injEq] at H; obtain ⟨rfl, rfl⟩ := H; refine aBa 14 (tf 15 14) ?_
               iterate 2 (refine pl_ ?_)
               refine tl_ ?_
               iterate 4 (refine pl_ ?_)
               iterate 4 (refine pd_ ?_)
               iterate 3 (refine pl_ ?_)
               refine dn_ ?_
               try go_wp2
               go_ret2
               exact ⟨er_, bb_⟩
             ·replace bIY := Bool.eq_false_iff.mpr bIY
              subst bIY; replace H := aZf H; simp only [Option.some.injEq, Prod.mk.injEq] at H; obtain ⟨rfl, rfl⟩ := H; refine aBa 14 (tf 15 14) ?_; refine pl_ ?_
              iterate 4 (refine pd_ ?_)
              iterate 2 (refine pl_ ?_)
              iterate 4 (refine pd_ ?_)
              iterate 3 (refine pl_ ?_)
              refine dn_ ?_
              try go_wp2
              go_ret2
              exact ⟨er_, bb_⟩
            ·replace bC2 := Bool.eq_false_iff.mpr bC2
             subst bC2; replace H := aZf H; simp only [Option.some.injEq, Prod.mk.injEq] at H; obtain ⟨rfl, rfl⟩ := H; (refine st_ 29 (aEm aU) (fun hHeld => ?_); refine aAv aG.bQ4 aG.b9W (fun HT_ HW_ => ?_)); generalize cDV.drew = dC8 at bU aU cZ HB hHeld ⊢; refine pl_ ?_; refine aBa 3 (bm 29 9) ?_; refine aCx 1 (bm 29 11) ?_; refine aBa 2 (tf 4 25) ?_; refine tl_ ?_
             iterate 2 (refine pl_ ?_)
             refine tl_ ?_; refine aCm (i := 8) (N := some 135) (tf 9 20) (h := fun K hK => ?_); refine gs_ Tryz.func72 #[.agg #[.int .i64 aA, .string aD, .int .i64 aH, .int .i64 aK, .int .i64 aJ, .int .i64 aI, .string bC, .string bB, .slice dN bG.length dQ, .slice bZ aV.length cB, .int .i64 aW, .slice bP aM.length bM], .bool true, .bool true, .bool false, .bool false] ?_; (with_reducible refine (bO.calls _ _ _ _ _ _ _ _ _ _ _ _ _ _ _ _ _ _ _ _ _ _ _ _ _ (cb_ iG HB) iD.out (cb_ iR HB) iZ.out (cb_ jE HB) jR.out cH2.out).mono ?_); rintro e dC5 ⟨rfl, hb⟩; refine ⟨_, rfl, ?_⟩; replace bU := am_ (Kd.aAs (rk_ bU.out) hb); replace aU := aAt aU hb; replace cZ := aAt cZ hb; replace HB := bs_ hb; (try clear hb); refine hK.out _ _ (aEm aU) (fun hHeld => ?_); clear hK K; refine nm_ ?_; refine aBa 9 (tf 10 19) ?_
             iterate 4 (refine pd_ ?_)
             iterate 2 (refine pl_ ?_)
             iterate 4 (refine pd_ ?_)
             iterate 2 (refine pl_ ?_)
             iterate 4 (refine pd_ ?_)
             iterate 3 (refine pl_ ?_)
             refine dn_ ?_
             try go_wp2
             go_ret2
             exact ⟨er_, bb_⟩
           ·rw [if_neg c168] at H
            have bSY : (aA == 6) = false := beq_eq_false_iff_ne.mpr c168; have bU7 : (aA != 6) = true := bne_iff_ne.mpr c168; simp only [Option.some.injEq, Prod.mk.injEq] at H; obtain ⟨rfl, rfl⟩ := H
            go_wp2_with (first | ((with_reducible refine aAa (f := 73) rfl ?_); refine aBh (some 49) Tryz.func73 #[.agg #[.int .i64 aA, .string aD, .int .i64 aH, .int .i64 aK, .int .i64 aJ, .int .i64 aI, .string bC, .string bB, .slice dN bG.length dQ, .slice bZ aV.length cB, .int .i64 aW, .slice bP aM.length bM], .slice A1 l1.length c1, .int .i64 a2, .int .i64 ZH] ?_; (with_reducible refine (dG.calls E_ UC _ _ _ _ _ _ _ _ _ _ _ _ _ _ _ _ _ _ _ _ _ _ _ _ _ _ _ (cb_ iG HB) iD.out (cb_ iR HB) iZ.out (cb_ jE HB) jR.out (cb_ HR1 HB) MZ.out A42.out).mono ?_); rintro e dD2 ⟨aJN, rfl, ho0, hb⟩; refine ⟨_, rfl, ?_⟩; have bU := am_ (Kd.aBc ho0 (aAj bb_)); replace aU := aAt aU hb; replace HB := bs_ hb; clear hb ho0; obtain ⟨dAU, d9S, cHU⟩ := Kd.aBj bU.out; subst cHU; have uW : 0 ≤ (0 : Int) := (by omega); have uR : 0 < (fQ.length : Int) := oa_; obtain ⟨zR, SV, kD⟩ := Kd.aCe (Kd.aAr bU.out).2.2 0 uW uR; cases SV; have a1F : (0 < fQ.length) = True := eq_true (by omega); (try rw [show ((0 : Int)).toNat = 0 from rfl] at kD); (try rw [Addr.add_zero'] at kD); replace uW := eq_true uW; replace uR := eq_true uR) | ((with_reducible refine aAc (N := 13) rfl ?_); (try (refine aAn (by rfl) ?_; dsimp only)); refine bx_ 13 #[.int .i64 0] 3 ?_; intro fH hg dD7 hbox hb; have cZ := am_ (hbox); have a0T := gw_ hg; have iU := nl_ hg aU; have kS := ng_ hg aU; have q0_ := am_ (Kd.aAs (Kd.aAw (Kd.aCv (rk_ bU.out)) (fun k_ h_ => (⟨trivial, by rw [hg]; exact Nat.ne_of_lt h_.2.2.1⟩ : True ∧ k_ ≠ fH))) hb); clear bU; have bU := q0_; clear q0_; replace aU := aAt aU hb; replace HB := bs_ hb; clear hb hbox hg; have d4J := kS.out; have d5I := iU.out; obtain ⟨cA7, c7D, cFZ, cM9⟩ := aJ1 cZ; obtain ⟨cK6, c6X, c65, cJ5, c6V, cAM, cMG, c9T, c9Y, cF1, c2Y, c2S, c97, c9D, cBS, cCW, c8Z, cKK, cLJ, cEZ, c74, cD5, c2U, c2L⟩ := aBw aU))
            go_ret2
            exact ⟨er_, bb_⟩
     ·rw [if_neg c44] at H
      exact nn_ H
    ·replace c43 := Bool.eq_false_iff.mpr c43
     subst c43; replace H := aZf H; simp only [Option.some.injEq, Prod.mk.injEq] at H; obtain ⟨rfl, rfl⟩ := H; obtain ⟨c5O, cFG, cE5, c3M, c6W, c9N, cFS, cIR, c6I, cA1, c2E, c2R, c6G, cF3, cL8, cET, cL7, cFP, cM0, c5Y, cIP, cAT, c2K, c3F⟩ := aBw aU
     go_wp2_with (first | ((with_reducible refine aAa (f := 73) rfl ?_); refine aBh (some 49) Tryz.func73 #[.agg #[.int .i64 aA, .string aD, .int .i64 aH, .int .i64 aK, .int .i64 aJ, .int .i64 aI, .string bC, .string bB, .slice dN bG.length dQ, .slice bZ aV.length cB, .int .i64 aW, .slice bP aM.length bM], .slice A1 l1.length c1, .int .i64 a2, .int .i64 ZH] ?_; (with_reducible refine (dG.calls E_ UC _ _ _ _ _ _ _ _ _ _ _ _ _ _ _ _ _ _ _ _ _ _ _ _ _ _ _ (cb_ iG HB) iD.out (cb_ iR HB) iZ.out (cb_ jE HB) jR.out (cb_ HR1 HB) MZ.out A42.out).mono ?_); rintro e dBV ⟨aJN, rfl, ho0, hb⟩; refine ⟨_, rfl, ?_⟩; have bU := am_ (Kd.aBc ho0 (aAj bb_)); replace aU := aAt aU hb; replace HB := bs_ hb; clear hb ho0))
     go_ret2
     exact ⟨er_, bb_⟩
end Go.Proofs.YtnobhkmpkichdaaGreat.PFnExactViewsOk
