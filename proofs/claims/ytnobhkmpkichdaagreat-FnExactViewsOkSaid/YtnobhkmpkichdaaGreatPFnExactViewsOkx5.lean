import Derived.Test.YtnobhkmpkichdaaGreatPress5
import Derived.Test.YtnobhkmpkichdaaGreatPFnExactViewsOkx4
namespace Go.Proofs.YtnobhkmpkichdaaGreat.PFnExactViewsOk
open Go.RowKit YtnobhkmpkichdaaGreatW.PrintWords YtnobhkmpkichdaaGreatW.PrintLast YtnobhkmpkichdaaGreatW.PrintMore
attribute [local go_sem] aDf aDi aEf aEe aCs aCt aDh aDg
set_option linter.unusedVariables false
set_option maxHeartbeats 8000000
set_option maxRecDepth 100000
set_option linter.unusedSimpArgs false
attribute [local go_sem] aQv aSa
def rT.f (k : Nat) (l0 : List S68) (aX : Int) (bD : ByteArray) (bJ bX : Int) (bY bV : Int) (eX eY : ByteArray) (dU dB : List S39) (dC : Int) (aY : List S42) : Option Int := (aN.f k l0 aX bD bJ bX bY bV eX eY dU dB dC aY 8).bind fun bIF => (some bIF)
theorem rT.calls (k : Nat) (A0 : Option Addr) (c0 : Nat) (l0 : List S68) (aX : Int) (bD : ByteArray) (bJ bX : Int) (bY bV : Int) (eX eY : ByteArray) (iX : Option Addr) (iY : Nat) (dU : List S39) (iA : Option Addr) (gZ : Nat) (dB : List S39) (dC : Int) (fP : Option Addr) (fG : Nat) (aY : List S42) (r : Int) (w : World) (hr0 : Kd.C BC w A0 l0.length l0) (hc0 : l0.length ≤ c0) (nM : Kd.C jX w iX dU.length dU) (nP : dU.length ≤ iY) (mK : Kd.C jX w iA dB.length dB) (mM : dB.length ≤ gZ) (kJ : Kd.C E5 w fP aY.length aY) (kI : aY.length ≤ fG) (h : rT.f k l0 aX bD bJ bX bY bV eX eY dU dB dC aY = some r) :
  Calls Tryz.prog 7 #[.slice A0 l0.length c0, .agg #[.int .i64 aX, .string bD, .int .i64 bJ, .int .i64 bX, .int .i64 bY, .int .i64 bV, .string eX, .string eY, .slice iX dU.length iY, .slice iA dB.length gZ, .int .i64 dC, .slice fP aY.length fG]] w fun e w' => e = .returned (.int .i64 r) ∧ Below w.heap.size w w' := by
 have MW := Tryz.underlying42
 have jY := am_ hr0
 have oQ := am_ hc0
 clear hr0 hc0
 have rZ := am_ nM
 have rX := am_ nP
 clear nM nP
 have oP := am_ mK
 have oL := am_ mM
 clear mK mM
 have qE := am_ kJ
 have rU := am_ kI
 clear kJ kI
 have HB := am_ (Below.refl w.heap.size w)
 have H : ((aN.f k l0 aX bD bJ bX bY bV eX eY dU dB dC aY 8).bind fun bIF => (some bIF)) = some r := h
 clear h
 replace H := aBp H
 obtain ⟨bIF, wN, H⟩ := H
 try dsimp only at H
 have A3 := am_ wN
 clear wN
 obtain rfl := Option.some.inj H
 go_enter Tryz.func7, Tryz.ntmps7
 go_wp2_with (first | ((with_reducible refine aAc (N := 3) rfl ?_); refine bx_ 3 #[.int .i64 aX, .string bD, .int .i64 bJ, .int .i64 bX, .int .i64 bY, .int .i64 bV, .string eX, .string eY, .slice iX dU.length iY, .slice iA dB.length gZ, .int .i64 dC, .slice fP aY.length fG] 42 ?_; intro d8S hg w4 hbox hb; have b0I := am_ (hbox); have d9Y := gw_ hg; replace HB := bs_ hb; clear hb hbox hg; obtain ⟨IG, JR, JN, a6C, a2V, a2T, a9I, a2U, a2Y, a2W, VA, XF, IK, IW, IX, aB2, a8V, aAC, a8O, aBX, aB7, a9Z, W9, XJ⟩ := aBw b0I) | ((with_reducible refine aAa (f := 22) rfl ?_); refine aBh (some 7) Tryz.func22 #[.slice A0 l0.length c0, .agg #[.int .i64 aX, .string bD, .int .i64 bJ, .int .i64 bX, .int .i64 bY, .int .i64 bV, .string eX, .string eY, .slice iX dU.length iY, .slice iA dB.length gZ, .int .i64 dC, .slice fP aY.length fG], .int .i64 8] ?_; (with_reducible refine (aN.calls _ _ _ _ _ _ _ _ _ _ _ _ _ _ _ _ _ _ _ _ _ _ _ _ _ (cb_ jY HB) oQ.out (cb_ rZ HB) rX.out (cb_ oP HB) oL.out (cb_ qE HB) rU.out A3.out).mono ?_); rintro e w6 ⟨rfl, hb⟩; refine ⟨_, rfl, ?_⟩; replace b0I := aAt b0I hb; replace HB := bs_ hb; (try clear hb)))
 go_ret
 exact ⟨er_, bb_⟩

def eB.l0 : Nat → ByteArray → Int → Option Bool
 | 0, _, _ => none
 | k + 1, x0, x3 => if x3 < (x0.size : Int) then (if 0 ≤ x3 then ((bN.f (wrap64 (bt x0 x3)) 97 122).bind fun bS6 => (if bS6 = true then (eB.l0 k x0 (wrap64 (x3 + 1))) else (if x3 = 0 then (some false) else ((bN.f (wrap64 (bt x0 x3)) 48 57).bind fun bXI => (if bXI = true then (eB.l0 k x0 (wrap64 (x3 + 1))) else (some false)))))) else (none)) else ((bN.f (x0.size : Int) 1 10).bind fun c5D => (some c5D))
def eB.f (k : Nat) (a0 : ByteArray) : Option Bool := eB.l0 k a0 0
theorem eB.calls (k : Nat) (a0 : ByteArray) (r : Bool) (w : World) (h : eB.f k a0 = some r) :
  Calls Tryz.prog 34 #[.string a0] w fun e w' => e = .returned (.bool r) ∧ aAu w w' := by
 have H : (eB.l0 k a0 0) = some r := h
 clear h
 have H' := am_ H
 clear H
 go_enter Tryz.func34, Tryz.ntmps34
 go_wp2
 go_loopg [3] k (fun kq v3 w' => ∃ (bA : Int), v3 = .int .i64 bA ∧ Aside0 (eB.l0 kq a0 bA = some r) ∧ Aside0 (kq ≤ k) ∧ aAu w w')
 case atStart => exact ⟨(0), rs_, H', ⟨Nat.le_refl _⟩, by repeat (first | exact aAu.refl _ | apply aAu.step)⟩
 case round =>
  clear H'; obtain ⟨bA, rfl, HA, jK, ⟨m1, rfl⟩⟩ := hrel
  cases gk with
  | zero => exact absurd HA.out (by simp [eB.l0])
  | succ k1 =>
   have H := HA.out; clear HA; simp only [eB.l0] at H
   by_cases c2 : bA < (a0.size : Int)
   ·rw [if_pos c2] at H
    have qD := decide_eq_true c2; clear c2
    by_cases c3 : 0 ≤ bA
    ·rw [if_pos c3] at H
     have fC := decide_eq_true c3; clear c3; replace H := aBp H; obtain ⟨bS6, U9, H⟩ := H
     try dsimp only at H
     have A5 := am_ U9; clear U9; have gY := am_ H; clear H; (have p4 : 0 ≤ (bA : Int) := oa_); (have q4 : bA < (a0.size : Int) := oa_); have hx4 := aPm a0 bA; replace p4 := eq_true p4; replace q4 := eq_true q4; have H := gY.out; clear gY
     by_cases c6 : bS6 = true
     ·subst c6
      rw [if_pos rfl] at H; have H' := am_ H; clear H
      go_wp2_with (first | ((with_reducible refine aAa (f := 50) rfl ?_); refine aBh (some 14) Tryz.func50 #[.int .i64 (wrap64 (bt a0 bA)), .int .i64 97, .int .i64 122] ?_; (with_reducible refine (bN.calls _ _ _ _ _ A5.out).mono ?_); rintro e w' ⟨rfl, ⟨nd, rfl⟩⟩; refine ⟨_, rfl, ?_⟩))
      go_roundg k1
      case measure => have := jK.out; omega
      case rel => exact ⟨(wrap64 (bA + 1)), rs_, H', ⟨by have := jK.out; omega⟩, by repeat (first | exact aAu.refl _ | apply aAu.step)⟩
     ·replace c6 := Bool.eq_false_iff.mpr c6
      subst c6; replace H := aZf H
      by_cases c7 : bA = 0
      ·rw [if_pos c7] at H
       have iV : (bA == 0) = true := beq_iff_eq.mpr c7; have zG : (bA != 0) = false := bne_eq_false_iff_eq.mpr c7; clear c7; obtain rfl := Option.some.inj H
       go_wp2_with (first | ((with_reducible refine aAa (f := 50) rfl ?_); refine aBh (some 14) Tryz.func50 #[.int .i64 (wrap64 (bt a0 bA)), .int .i64 97, .int .i64 122] ?_; (with_reducible refine (bN.calls _ _ _ _ _ A5.out).mono ?_); rintro e w' ⟨rfl, ⟨nd, rfl⟩⟩; refine ⟨_, rfl, ?_⟩))
       go_ret
       (exact ⟨by first | rfl | (simp; done) | (simp [*]; done), by repeat (first | exact aAu.refl _ | apply aAu.step)⟩)
      ·rw [if_neg c7] at H
       have iV : (bA == 0) = false := beq_eq_false_iff_ne.mpr c7; have zG : (bA != 0) = true := bne_iff_ne.mpr c7; replace H := aBp H; obtain ⟨bXI, A90, H⟩ := H
       try dsimp only at H
       have A9 := am_ A90; clear A90
       by_cases c10 : bXI = true
       ·subst c10
        rw [if_pos rfl] at H; have H' := am_ H; clear H
        go_wp2_with (first | ((with_reducible refine aAa (f := 50) rfl ?_); refine aBh (some 14) Tryz.func50 #[.int .i64 (wrap64 (bt a0 bA)), .int .i64 97, .int .i64 122] ?_; (with_reducible refine (bN.calls _ _ _ _ _ A5.out).mono ?_); rintro e w' ⟨rfl, ⟨nd, rfl⟩⟩; refine ⟨_, rfl, ?_⟩; have p8 : 0 ≤ (bA : Int) := oa_; have q8 : bA < (a0.size : Int) := oa_; have hx8 := aPm a0 bA; replace p8 := eq_true p8; replace q8 := eq_true q8) | (go_at_call 50; (with_reducible refine (bN.calls _ _ _ _ _ A9.out).mono ?_); rintro e w' ⟨rfl, ⟨nd, rfl⟩⟩))
        go_roundg k1
        case measure => have := jK.out; omega
        case rel => exact ⟨(wrap64 (bA + 1)), rs_, H', ⟨by have := jK.out; omega⟩, by repeat (first | exact aAu.refl _ | apply aAu.step)⟩
       ·replace c10 := Bool.eq_false_iff.mpr c10
        subst c10; replace H := aZf H; obtain rfl := Option.some.inj H
        go_wp2_with (first | ((with_reducible refine aAa (f := 50) rfl ?_); refine aBh (some 14) Tryz.func50 #[.int .i64 (wrap64 (bt a0 bA)), .int .i64 97, .int .i64 122] ?_; (with_reducible refine (bN.calls _ _ _ _ _ A5.out).mono ?_); rintro e w' ⟨rfl, ⟨nd, rfl⟩⟩; refine ⟨_, rfl, ?_⟩; have p8 : 0 ≤ (bA : Int) := oa_; have q8 : bA < (a0.size : Int) := oa_; have hx8 := aPm a0 bA; replace p8 := eq_true p8; replace q8 := eq_true q8) | (go_at_call 50; (with_reducible refine (bN.calls _ _ _ _ _ A9.out).mono ?_); rintro e w' ⟨rfl, ⟨nd, rfl⟩⟩))
        go_ret
        (exact ⟨by first | rfl | (simp; done) | (simp [*]; done), by repeat (first | exact aAu.refl _ | apply aAu.step)⟩)
    ·rw [if_neg c3] at H
     exact nn_ H
   ·rw [if_neg c2] at H
    have qD := decide_eq_false c2; clear c2; replace H := aBp H; obtain ⟨c5D, N7, H⟩ := H
    try dsimp only at H
    have MX := am_ N7; clear N7; obtain rfl := Option.some.inj H
    go_wp2_with (first | ((with_reducible refine aAa (f := 50) rfl ?_); refine aBh (some 30) Tryz.func50 #[.int .i64 (a0.size : Int), .int .i64 1, .int .i64 10] ?_; (with_reducible refine (bN.calls _ _ _ _ _ MX.out).mono ?_); rintro e w' ⟨rfl, ⟨nd, rfl⟩⟩; refine ⟨_, rfl, ?_⟩))
    go_ret
    (exact ⟨by first | rfl | (simp; done) | (simp [*]; done), by repeat (first | exact aAu.refl _ | apply aAu.step)⟩)

def gN.l0 : Nat → List S36 → Int → Int → Option Bool
 | 0, _, _, _ => none
 | k + 1, x0, x1, x5 => if x5 < (x0.length : Int) then (if 0 ≤ x5 then ((j5.f ((gT x0 x5).f0) ((gT x0 x5).f1) ((gT x0 x5).f2)).bind fun bX6 => (if bX6 = true then (gN.l0 k x0 x1 (wrap64 (x5 + 1))) else (some false))) else (none)) else (some ((x0.length : Int) == x1))
def gN.f (k : Nat) (l0 : List S36) (a1 : Int) : Option Bool := gN.l0 k l0 a1 0
theorem gN.calls (k : Nat) (A0 : Option Addr) (c0 : Nat) (l0 : List S36) (a1 : Int) (r : Bool) (w : World) (hr0 : Kd.C ER w A0 l0.length l0) (hc0 : l0.length ≤ c0) (h : gN.f k l0 a1 = some r) :
  Calls Tryz.prog 103 #[.slice A0 l0.length c0, .int .i64 a1] w fun e w' => e = .returned (.bool r) ∧ Below w.heap.size w w' := by
 have QU := Tryz.underlying36
 have jY := am_ hr0
 have oQ := am_ hc0
 clear hr0 hc0
 have HB := am_ (Below.refl w.heap.size w)
 have H : (gN.l0 k l0 a1 0) = some r := h
 clear h
 have H' := am_ H
 clear H
 go_enter Tryz.func103, Tryz.ntmps103
 go_wp2
 go_loopg [5] k (fun kq v5 w' => ∃ (aC : Int), v5 = .int .i64 aC ∧ Aside0 (gN.l0 kq l0 a1 aC = some r) ∧ Aside0 (kq ≤ k) ∧ Aside0 (Below w.heap.size w w'))
 case atStart => exact ⟨(0), rs_, H', ⟨Nat.le_refl _⟩, ⟨bb_⟩⟩
 case round =>
  clear H'; (try clear c1); (try clear p2); obtain ⟨aC, rfl, HA, jK, HB⟩ := hrel
  cases gk with
  | zero => exact absurd HA.out (by simp [gN.l0])
  | succ k1 =>
   have H := HA.out; clear HA; simp only [gN.l0] at H
   by_cases c3 : aC < (l0.length : Int)
   ·rw [if_pos c3] at H
    have fC := decide_eq_true c3; clear c3
    by_cases c4 : 0 ≤ aC
    ·rw [if_pos c4] at H
     have iB := decide_eq_true c4; clear c4; replace H := aBp H; obtain ⟨bX6, U9, H⟩ := H
     try dsimp only at H
     have A5 := am_ U9; clear U9; have gY := am_ H; clear H; (have c1Q : 0 ≤ (aC : Int) := oa_); (have c0F : aC < (l0.length : Int) := oa_); obtain ⟨d7I, d3X, aLX, aNM, aQH⟩ := Z5 jY.out aC c1Q c0F; cases d3X; obtain ⟨aLX, aNM, aQH⟩ := aNo HB aLX aNM aQH; replace c1Q := eq_true c1Q; replace c0F := eq_true c0F; have H := gY.out; clear gY
     by_cases c6 : bX6 = true
     ·subst c6
      rw [if_pos rfl] at H; have H' := am_ H; clear H
      go_wp2_with (first | ((with_reducible refine aAa (f := 112) rfl ?_); refine aBh (some 16) Tryz.func112 #[.agg #[.int .i64 ((gT l0 aC).f0), .int .i64 ((gT l0 aC).f1), .string ((gT l0 aC).f2)]] ?_; (with_reducible refine (j5.calls _ _ _ _ _ A5.out).mono ?_); rintro e w7 ⟨rfl, hb⟩; refine ⟨_, rfl, ?_⟩; replace HB := bs_ hb; (try clear hb)))
      go_roundg k1
      case measure => have := jK.out; omega
      case rel => exact ⟨(wrap64 (aC + 1)), rs_, H', ⟨by have := jK.out; omega⟩, ⟨bb_⟩⟩
     ·replace c6 := Bool.eq_false_iff.mpr c6
      subst c6; replace H := aZf H; obtain rfl := Option.some.inj H
      go_wp2_with (first | ((with_reducible refine aAa (f := 112) rfl ?_); refine aBh (some 16) Tryz.func112 #[.agg #[.int .i64 ((gT l0 aC).f0), .int .i64 ((gT l0 aC).f1), .string ((gT l0 aC).f2)]] ?_; (with_reducible refine (j5.calls _ _ _ _ _ A5.out).mono ?_); rintro e w7 ⟨rfl, hb⟩; refine ⟨_, rfl, ?_⟩; replace HB := bs_ hb; (try clear hb)))
      go_ret
      exact ⟨er_, bb_⟩
    ·rw [if_neg c4] at H
     exact nn_ H
   ·rw [if_neg c3] at H
    have fC := decide_eq_false c3; clear c3; obtain rfl := Option.some.inj H
    go_wp2
    go_ret
    exact ⟨er_, bb_⟩

theorem aVm (t : TypeId) (a b : ByteArray) : binOp .gtr t (.string a) (.string b) = pure (.bool !(Op.bytesLess a.toList b.toList || a.toList == b.toList)) := by simp [binOp, Op.stringOp]
attribute [local go_sem] aVm
def aWp (a b : Int) (s : ByteArray) (a' b' : Int) (s' : ByteArray) : Int :=
  if a < a' then -1 else if a' < a then 1 else if b < b' then -1 else if b' < b then 1 else if Op.bytesLess s.toList s'.toList = true then -1 else if (Op.bytesLess s.toList s'.toList || s.toList == s'.toList) = true then 0 else 1
def mE.f (aA aD : Int) (aH : ByteArray) (aX bD : Int) (bJ : ByteArray) : Option Int := some (aWp aA aD aH aX bD bJ)
theorem mE.calls (aA aD : Int) (aH : ByteArray) (aX bD : Int) (bJ : ByteArray) (r : Int) (w : World) (h : mE.f aA aD aH aX bD bJ = some r) :
    Calls Tryz.prog 124 #[.agg #[.int .i64 aA, .int .i64 aD, .string aH], .agg #[.int .i64 aX, .int .i64 bD, .string bJ]] w fun e w' => e = .returned (.int .i64 r) ∧ Below w.heap.size w w' := by
  have hu := Tryz.underlying36
  unfold mE.f at h
  replace h := Option.some.inj h
  unfold aWp at h
  by_cases h1 : aA < aX
  · rw [if_pos h1] at h
    subst h
    have d1 : decide (aA < aX) = true := decide_eq_true h1
    clear h1
    go_enter Tryz.func124, Tryz.ntmps124
    go_wp2
    go_ret
    exact ⟨rfl, ((Below.refl _ _).alloc (Nat.le_refl _) _).alloc (by simp) _⟩
  rw [if_neg h1] at h
  have d1 : decide (aA < aX) = false := decide_eq_false h1
  clear h1
  by_cases h2 : aX < aA
  · rw [if_pos h2] at h
    subst h
    have d2 : decide (aX < aA) = true := decide_eq_true h2
    clear h2
    go_enter Tryz.func124, Tryz.ntmps124
    go_wp2
    go_ret
    exact ⟨rfl, ((Below.refl _ _).alloc (Nat.le_refl _) _).alloc (by simp) _⟩
  rw [if_neg h2] at h
  have d2 : decide (aX < aA) = false := decide_eq_false h2
  clear h2
  by_cases h3 : aD < bD
  · rw [if_pos h3] at h
    subst h
    have d3 : decide (aD < bD) = true := decide_eq_true h3
    clear h3
    go_enter Tryz.func124, Tryz.ntmps124
    go_wp2
    go_ret
    exact ⟨rfl, ((Below.refl _ _).alloc (Nat.le_refl _) _).alloc (by simp) _⟩
  rw [if_neg h3] at h
  have d3 : decide (aD < bD) = false := decide_eq_false h3
  clear h3
  by_cases h4 : bD < aD
  · rw [if_pos h4] at h
    subst h
    have d4 : decide (bD < aD) = true := decide_eq_true h4
    clear h4
    go_enter Tryz.func124, Tryz.ntmps124
    go_wp2
    go_ret
    exact ⟨rfl, ((Below.refl _ _).alloc (Nat.le_refl _) _).alloc (by simp) _⟩
  rw [if_neg h4] at h
  have d4 : decide (bD < aD) = false := decide_eq_false h4
  clear h4
  by_cases h5 : Op.bytesLess aH.toList bJ.toList = true
  · rw [if_pos h5] at h
    subst h
    go_enter Tryz.func124, Tryz.ntmps124
    go_wp2
    go_ret
    exact ⟨rfl, ((Below.refl _ _).alloc (Nat.le_refl _) _).alloc (by simp) _⟩
  rw [if_neg h5] at h
  have d5 : Op.bytesLess aH.toList bJ.toList = false := by simpa using h5
  clear h5
  rw [d5, Bool.false_or] at h
  by_cases h6 : (aH.toList == bJ.toList) = true
  · rw [if_pos h6] at h
    subst h
    go_enter Tryz.func124, Tryz.ntmps124
    go_wp2
    go_ret
    exact ⟨rfl, ((Below.refl _ _).alloc (Nat.le_refl _) _).alloc (by simp) _⟩
  · rw [if_neg h6] at h
    subst h
    have d6 : (aH.toList == bJ.toList) = false := by simpa using h6
    clear h6
    go_enter Tryz.func124, Tryz.ntmps124
    go_wp2
    go_ret
    exact ⟨rfl, ((Below.refl _ _).alloc (Nat.le_refl _) _).alloc (by simp) _⟩

mutual
def bK.l0 : Nat → List S36 → List S36 → Int → Option Int
 | 0, _, _, _ => none
 | k + 1, x0, x1, x5 => if x5 < (x0.length : Int) then (bK.j1 k x0 x1 x5 (decide (x5 < (x1.length : Int)))) else (bK.j1 k x0 x1 x5 false)
def bK.j1 : Nat → List S36 → List S36 → Int → Bool → Option Int
 | 0, _, _, _, _ => none
 | k + 1, x0, x1, x5, x16 => if x16 = true then (if 0 ≤ x5 then (if x5 < (x0.length : Int) then (if x5 < (x1.length : Int) then ((mE.f ((gT x0 x5).f0) ((gT x0 x5).f1) ((gT x0 x5).f2) ((gT x1 x5).f0) ((gT x1 x5).f1) ((gT x1 x5).f2)).bind fun aFH => (if aFH = 0 then (bK.l0 k x0 x1 (wrap64 (x5 + 1))) else (some aFH))) else (none)) else (none)) else (none)) else (if (x0.length : Int) < (x1.length : Int) then (some (-1)) else (if (x0.length : Int) > (x1.length : Int) then (some 1) else (some 0)))
end
def bK.f (k : Nat) (l0 l1 : List S36) : Option Int := bK.l0 k l0 l1 0
def bK.T4 : Bool × List (List Nat × List Nat) := (true, [([], []), ([], []), ([0, 1], [0, 1]), ([2], [2]), ([], []), ([], []), ([4, 5], [4, 5]), ([6], [6]), ([3, 7], [3, 7]), ([8, 8, 0, 1, 2, 3, 4, 5, 6, 7, 8], [8])])
def bK.B4 : List Nat := [0, 0, 3, 7, 0, 0, 48, 112, 255, 511]
theorem bK.aYW : aEr .any (opsOf Tryz.f104 4) = bK.T4 := by kernel_rfl
theorem bK.a1T : aBu bK.T4.2 bK.B4 = true := by kernel_rfl
theorem bK.calls (k : Nat) (A0 : Option Addr) (c0 : Nat) (l0 : List S36) (A1 : Option Addr) (c1 : Nat) (l1 : List S36) (r : Int) (w : World) (hr0 : Kd.C ER w A0 l0.length l0) (hc0 : l0.length ≤ c0) (hr1 : Kd.C ER w A1 l1.length l1) (hc1 : l1.length ≤ c1) (h : bK.f k l0 l1 = some r) :
  Calls Tryz.prog 104 #[.slice A0 l0.length c0, .slice A1 l1.length c1] w fun e w' => e = .returned (.int .i64 r) ∧ Below w.heap.size w w' := by
 have QU := Tryz.underlying36
 have jY := am_ hr0
 have oQ := am_ hc0
 clear hr0 hc0
 have HR1 := am_ hr1
 have MZ := am_ hc1
 clear hr1 hc1
 have HB := am_ (Below.refl w.heap.size w)
 have H : (bK.l0 k l0 l1 0) = some r := h
 clear h
 have H' := am_ H
 clear H
 go_enter Tryz.func104, Tryz.ntmps104
 go_wp2
 go_loopg [5] k (fun kq v5 w' => ∃ (aC : Int), v5 = .int .i64 aC ∧ Aside0 (bK.l0 kq l0 l1 aC = some r) ∧ Aside0 (kq ≤ k) ∧ Aside0 (Below w.heap.size w w'))
 case atStart => exact ⟨(0), rs_, H', ⟨Nat.le_refl _⟩, ⟨bb_⟩⟩
 case round =>
  clear H'; (try clear c1); (try clear p2); obtain ⟨aC, rfl, HA, jK, HB⟩ := hrel
  cases gk with
  | zero => exact absurd HA.out (by simp [bK.l0])
  | succ k1 =>
   have H := HA.out; clear HA; simp only [bK.l0] at H; have HC3 := am_ H; clear H
   go_upto_region 2 with (fail)
   go_cut [16] (fun v16 wc => ∃ (kq : Nat) (aSA : Bool), v16 = .bool aSA ∧ Aside0 (bK.j1 kq l0 l1 aC aSA = some r) ∧ Aside0 (kq ≤ k1) ∧ Aside0 (Below w.heap.size w wc))
   case first =>
    have H := HC3.out; clear HC3
    by_cases c4 : aC < (l0.length : Int)
    ·rw [if_pos c4] at H
     have iB := decide_eq_true c4; clear c4; (first | rw [iB] | (simp only [aCj, aCw]; rw [iB]) | skip); have H' := am_ H; clear H
     go_wp2
     go_meet
     case rel => exact ⟨_, (decide (aC < (l1.length : Int))), rs_, H', ⟨by have := jK.out; first | omega | exact Nat.le_refl _⟩, ⟨bb_⟩⟩
    ·rw [if_neg c4] at H
     have iB := decide_eq_false c4; clear c4; (first | rw [iB] | (simp only [aCj, aCw]; rw [iB]) | skip); have H' := am_ H; clear H
     go_wp2
     go_meet
     case rel => exact ⟨_, (false), rs_, H', ⟨by have := jK.out; first | omega | exact Nat.le_refl _⟩, ⟨bb_⟩⟩
   case rest =>
    clear HC3; (try clear c1); (try clear p2); (try clear c4); (try clear iB); (try clear p2); obtain ⟨kq, aSA, rfl, HA, HJ2, HB⟩ := hcut
    cases kq with
    | zero => exact absurd HA.out (by simp [bK.j1])
    | succ kj2 =>
     have H := HA.out; clear HA; simp only [bK.j1] at H
     by_cases c5 : aSA = true
     ·subst c5
      rw [if_pos rfl] at H
      by_cases c6 : 0 ≤ aC
      ·rw [if_pos c6] at H
       have mY := decide_eq_true c6; clear c6
       by_cases c7 : aC < (l0.length : Int)
       ·rw [if_pos c7] at H
        have iV := decide_eq_true c7; clear c7
        by_cases c8 : aC < (l1.length : Int)
        ·rw [if_pos c8] at H
         have J4 := decide_eq_true c8; clear c8; replace H := aBp H; obtain ⟨aFH, A90, H⟩ := H
         try dsimp only at H
         have A9 := am_ A90; clear A90; have gY := am_ H; clear H
         try go_wp2
         replace HB := am_ (aAm HB.out); (have bYA : 0 ≤ (aC : Int) := oa_); (have bSP : aC < (l0.length : Int) := oa_); obtain ⟨dA5, d6L, aBV, a3Y, aB4⟩ := Z5 jY.out aC bYA bSP; cases d6L; obtain ⟨bC8, bKF, bMM⟩ := aNo HB aBV a3Y aB4; replace bYA := eq_true bYA; replace bSP := eq_true bSP; (have c0Q : 0 ≤ (aC : Int) := oa_); (have bXV : aC < (l1.length : Int) := oa_); obtain ⟨d8R, d45, a5B, a9P, a2R⟩ := Z5 HR1.out aC c0Q bXV; cases d45; obtain ⟨bBB, bGR, bN7⟩ := aNo HB a5B a9P a2R; replace c0Q := eq_true c0Q; replace bXV := eq_true bXV; (refine st_ 10 (hc_ ((hb_ HB aBV)) (hc_ ((hb_ HB a3Y)) (hc_ ((hb_ HB aB4)) (hc_ ((hb_ HB a5B)) (hc_ ((hb_ HB a9P)) (hf_ ((hb_ HB a2R)))))))) (fun hHeld => ?_); refine aAv bK.aYW bK.a1T (fun HT_ HW_ => ?_)); generalize wc.drew = jI at HB bC8 bKF bMM bBB bGR bN7 hHeld ⊢
         iterate 3 (refine pl_ ?_)
         refine aBa 4 (bm 10 23) ?_; refine aBa 5 (bm 10 55) ?_; refine aBa 6 (bm 10 119) ?_; refine aCx 3 (tf 7 3) ?_; refine tl_ ?_; refine aCm (i := 8) (N := some 27) (tf 9 1) (h := fun K hK => ?_); refine gs_ Tryz.func124 #[.agg #[.int .i64 ((gT l0 aC).f0), .int .i64 ((gT l0 aC).f1), .string ((gT l0 aC).f2)], .agg #[.int .i64 ((gT l1 aC).f0), .int .i64 ((gT l1 aC).f1), .string ((gT l1 aC).f2)]] ?_; (with_reducible refine (mE.calls _ _ _ _ _ _ _ _ A9.out).mono ?_); rintro e w12 ⟨rfl, hb⟩; refine ⟨_, rfl, ?_⟩; replace HB := bs_ hb; (try clear hb); refine hK.out _ _ (hc_ (hb_ HB aBV) (hc_ (hb_ HB a3Y) (hc_ (hb_ HB aB4) (hc_ (hb_ HB a5B) (hc_ (hb_ HB a9P) (hf_ (hb_ HB a2R))))))) (fun hHeld => ?_); clear hK K; refine nm_ ?_; have H := gY.out; clear gY
         by_cases c10 : aFH = 0
         ·rw [if_pos c10] at H
          have UA : (aFH == 0) = true := beq_iff_eq.mpr c10; have c9U : (aFH != 0) = false := bne_eq_false_iff_eq.mpr c10; clear c10; have H' := am_ H; clear H; refine aBa 9 (tf 10 0) ?_; refine dn_ ?_
          try go_wp2
          go_roundg kj2
          case measure => have := jK.out; have := HJ2.out; omega
          case rel => exact ⟨(wrap64 (aC + 1)), rs_, H', ⟨by have := jK.out; have := HJ2.out; omega⟩, ⟨bb_⟩⟩
         ·rw [if_neg c10] at H
          have UA : (aFH == 0) = false := beq_eq_false_iff_ne.mpr c10; have c9U : (aFH != 0) = true := bne_iff_ne.mpr c10; obtain rfl := Option.some.inj H; refine aBa 9 (tf 10 0) ?_; refine dn_ ?_
          try go_wp2
          go_ret
          exact ⟨er_, bb_⟩
        ·rw [if_neg c8] at H
         exact nn_ H
       ·rw [if_neg c7] at H
        exact nn_ H
      ·rw [if_neg c6] at H
       exact nn_ H
     ·replace c5 := Bool.eq_false_iff.mpr c5
      subst c5; replace H := aZf H
      by_cases c15 : (l0.length : Int) < (l1.length : Int)
      ·rw [if_pos c15] at H
       have YE := decide_eq_true c15; have a19 : decide (l0.length < l1.length) = true := decide_eq_true (Int.ofNat_lt.mp c15); clear c15; obtain rfl := Option.some.inj H
       go_wp2
       go_ret
       exact ⟨er_, bb_⟩
      ·rw [if_neg c15] at H
       have YE := decide_eq_false c15; have a19 : decide (l0.length < l1.length) = false := decide_eq_false (fun h => c15 (Int.ofNat_lt.mpr h)); clear c15
       by_cases c16 : (l0.length : Int) > (l1.length : Int)
       ·rw [if_pos c16] at H
        have GY := decide_eq_true c16; have aIL : decide (l1.length < l0.length) = true := decide_eq_true (Int.ofNat_lt.mp c16); clear c16; obtain rfl := Option.some.inj H
        go_wp2
        go_ret
        exact ⟨er_, bb_⟩
       ·rw [if_neg c16] at H
        have GY := decide_eq_false c16; have aIL : decide (l1.length < l0.length) = false := decide_eq_false (fun h => c16 (Int.ofNat_lt.mpr h)); clear c16; obtain rfl := Option.some.inj H
        go_wp2
        go_ret
        exact ⟨er_, bb_⟩
def dJ.l0 : Nat → Int → Int → List S126 → Option Bool
 | 0, _, _, _ => none
 | k + 1, x3, XI, wC => if x3 < (wC.length : Int) then (if 0 ≤ x3 then ((gN.f k ((bI wC x3).f0) XI).bind fun bYC => (if bYC = true then (if ((bI wC x3).f1) = 0 then (some false) else ((bN.f ((bI wC x3).f1) (-1000000000) 1000000000).bind fun c0B => (if c0B = true then (if x3 > 0 then (if 0 ≤ (wrap64 (x3 - 1)) then (if (wrap64 (x3 - 1)) < (wC.length : Int) then ((bK.f k ((bI wC (wrap64 (x3 - 1))).f0) ((bI wC x3).f0)).bind fun b6V => (if b6V ≥ 0 then (some false) else (dJ.l0 k (wrap64 (x3 + 1)) XI wC))) else (none)) else (none)) else (dJ.l0 k (wrap64 (x3 + 1)) XI wC)) else (some false)))) else (some false))) else (none)) else ((bN.f XI 0 12).bind fun bY0 => (if bY0 = true then (some (decide ((wC.length : Int) ≤ 400))) else (some false)))
def dJ.f (k : Nat) (aA : Int) (bS : List S126) : Option Bool := dJ.l0 k 0 aA bS
def dJ.T5 : Bool × List (List Nat × List Nat) := (true, [([], []), ([0], [0]), ([], []), ([2], [2]), ([1, 3], [1, 3]), ([4], [4]), ([5, 4], [5]), ([6], [6]), ([7, 6], [6, 7]), ([8, 6], [6, 8]), ([6, 9], [6, 9]), ([10, 6], [10]), ([11], [11]), ([12, 11], [11, 12]), ([13, 11, 11], [11, 13]), ([14, 11], [11, 14]), ([11, 15], [11, 15]), ([16, 14], [16]), ([17], [17]), ([18, 17], [17, 18]), ([19, 17, 17], [17, 19]), ([20], [20]), ([21, 20], [20, 21]), ([20], [20]), ([23, 20], [20, 23]), ([22, 24, 20], [20, 22, 24]), ([25, 20], [20, 25]), ([26, 20], [20, 26]), ([20], [20]), ([28, 20], [20, 28]), ([27, 29, 20, 20], [20, 27, 29]), ([30, 20], [20, 30]), ([20, 31, 17], [17, 20, 31]), ([17, 32], [17, 32])])
def dJ.B5 : List Nat := [0, 1, 0, 4, 15, 31, 63, 127, 255, 511, 1023, 2047, 4095, 8191, 16383, 32767, 65535, 131071, 262143, 524287, 1048575, 2097151, 4194303, 2097151, 10485759, 33554431, 67108863, 134217727, 2097151, 270532607, 1073741823, 2147483647, 4294967295, 8589934591]
theorem dJ.MV : aEr .any (opsOf Tryz.f80 5) = dJ.T5 := by kernel_rfl
theorem dJ.xI : aBu dJ.T5.2 dJ.B5 = true := by kernel_rfl
theorem dJ.calls (k : Nat) (aA : Int) (lW : Option Addr) (lS : Nat) (bS : List S126) (r : Bool) (w : World) (qC : Kd.C jU w lW bS.length bS) (sN : bS.length ≤ lS) (h : dJ.f k aA bS = some r) :
  Calls Tryz.prog 80 #[.agg #[.int .i64 aA, .slice lW bS.length lS]] w fun e w' => e = .returned (.bool r) ∧ Below w.heap.size w w' := by
 obtain ⟨NT, a1V⟩ := bOR
 have xG := am_ qC
 have JH := am_ sN
 clear qC sN
 have HB := am_ (Below.refl w.heap.size w)
 have H : (dJ.l0 k 0 aA bS) = some r := h
 clear h
 have H' := am_ H
 clear H
 go_enter Tryz.func80, Tryz.ntmps80
 go_wp2_with (first | ((with_reducible refine aAc (N := 1) rfl ?_); (try (refine aAn (by rfl) ?_; dsimp only)); refine bx_ 1 #[.int .i64 aA, .slice lW bS.length lS] 66 ?_; intro bQ3 hg w2 hbox hb; have iM := am_ (hbox); have c7K := gw_ hg; replace HB := bs_ hb; clear hb hbox hg))
 go_loopg [3] k (fun kq v3 w' => ∃ (bA : Int), v3 = .int .i64 bA ∧ Aside0 (dJ.l0 kq bA aA bS = some r) ∧ Aside0 (kq ≤ k) ∧ Aside0 (w'.heap[bQ3]? = some (.cells #[.int .i64 aA, (.slice lW bS.length lS)] 66 (0, 0))) ∧ Aside0 (Below w.heap.size w w'))
 case atStart => exact ⟨(0), rs_, H', ⟨Nat.le_refl _⟩, ⟨aBx iM.out⟩, ⟨bb_⟩⟩
 case round =>
  clear H'; (try clear p2); obtain ⟨bA, rfl, HA, jK, iM, HB⟩ := hrel
  cases gk with
  | zero => exact absurd HA.out (by simp [dJ.l0])
  | succ k1 =>
   have H := HA.out; clear HA; simp only [dJ.l0] at H
   by_cases c3 : bA < (bS.length : Int)
   ·rw [if_pos c3] at H
    have fC := decide_eq_true c3; clear c3
    by_cases c4 : 0 ≤ bA
    ·rw [if_pos c4] at H
     have iB := decide_eq_true c4; clear c4; replace H := aBp H; obtain ⟨bYC, U9, H⟩ := H
     try dsimp only at H
     have A5 := am_ U9; clear U9; have gY := am_ H; clear H; obtain ⟨qI, qG, qF, qH⟩ := b2_ iM; (have bVW : 0 ≤ (bA : Int) := oa_); (have bUH : bA < (bS.length : Int) := oa_); obtain ⟨bPB, zT, zN, e331, aO5, aTF, aRN, aWK⟩ := G9 xG.out bA bVW bUH; cases e331; obtain ⟨aO5, aTF⟩ := aSr HB aO5 aTF; have KU := am_ aWK; have KM := am_ aRN; clear aWK aRN; replace bVW := eq_true bVW; replace bUH := eq_true bUH
     try go_wp2_with (first | ((with_reducible refine aAc (N := 4) rfl ?_); (try (refine aAn (by rfl) ?_; dsimp only)); refine bx_ 4 #[.slice none 0 0, .int .i64 0] 126 ?_; intro SE hg w9 hbox hb; have jV := am_ (hbox); have cHQ := gw_ hg; have a0U := nl_ hg iM; have aZY := ng_ hg iM; replace iM := aAt iM hb; replace HB := bs_ hb; clear hb hbox hg; have aPS := aZY.out; have aSU := a0U.out; obtain ⟨CX, DR, BV, D5⟩ := b2_ jV))
     have n0_ : Aside0 (((w9.setCell ⟨SE, 0, none⟩ (.slice zT ((bI bS bA).f0).length zN)).setCell ⟨SE, 1, none⟩ (.int .i64 ((bI bS bA).f1))).heap[bQ3]? = some (.cells #[.int .i64 aA, .slice (some bPB) bS.length lS] 66 (0, 0))) := ⟨(aTv a0U (aBx iM.out))⟩; have n1_ : Aside0 (((w9.setCell ⟨SE, 0, none⟩ (.slice zT ((bI bS bA).f0).length zN)).setCell ⟨SE, 1, none⟩ (.int .i64 ((bI bS bA).f1))).heap[SE]? = some (.cells #[.slice zT ((bI bS bA).f0).length zN, .int .i64 ((bI bS bA).f1)] 126 (0, 0))) := ⟨(aWo (aBx jV.out))⟩; have pO : Aside0 (Below w.heap.size w ((w9.setCell ⟨SE, 0, none⟩ (.slice zT ((bI bS bA).f0).length zN)).setCell ⟨SE, 1, none⟩ (.int .i64 ((bI bS bA).f1)))) := ⟨bb_⟩; (try clear iM); (try clear jV); (try clear HB); generalize ((w9.setCell ⟨SE, 0, none⟩ (.slice zT ((bI bS bA).f0).length zN)).setCell ⟨SE, 1, none⟩ (.int .i64 ((bI bS bA).f1))) = w12 at n0_ n1_ pO ⊢; have iM := n0_; have jV := n1_; have HB := pO; clear n0_ n1_ pO; replace iM := am_ (aAz iM.out); replace jV := am_ (aAz jV.out); replace HB := am_ (aAm HB.out); have H := gY.out; clear gY
     by_cases c6 : bYC = true
     ·subst c6
      rw [if_pos rfl] at H
      by_cases c7 : ((bI bS bA).f1) = 0
      ·rw [if_pos c7] at H
       have iV : (((bI bS bA).f1) == 0) = true := beq_iff_eq.mpr c7; have zG : (((bI bS bA).f1) != 0) = false := bne_eq_false_iff_eq.mpr c7; clear c7; obtain rfl := Option.some.inj H; (refine st_ 34 (aFt jV (aKh iM)) (fun hHeld => ?_); refine aAv dJ.MV dJ.xI (fun HT_ HW_ => ?_)); generalize w12.drew = ZO at iM jV HB hHeld ⊢; refine pl_ ?_; refine aBa 2 (bm 34 5) ?_; refine aCx 1 (tf 3 31) ?_; refine tl_ ?_; refine aCm (i := 4) (N := some 21) (tf 5 29) (h := fun K hK => ?_); refine gs_ Tryz.func103 #[.slice zT ((bI bS bA).f0).length zN, .int .i64 aA] ?_; (with_reducible refine (gN.calls _ _ _ _ _ _ _ (cb_ KU HB) KM.out A5.out).mono ?_); rintro e w14 ⟨rfl, hb⟩; refine ⟨_, rfl, ?_⟩; replace iM := aAt iM hb; replace jV := aAt jV hb; replace HB := bs_ hb; (try clear hb); refine hK.out _ _ (aFt jV (aKh iM)) (fun hHeld => ?_); clear hK K; refine nm_ ?_; refine aBa 5 (tf 6 28) ?_
       iterate 2 (refine pl_ ?_)
       refine tl_ ?_
       iterate 3 (refine pl_ ?_)
       iterate 4 (refine pd_ ?_)
       iterate 2 (refine pl_ ?_)
       iterate 15 (refine pd_ ?_)
       refine pl_ ?_; refine dn_ ?_
       try go_wp2
       go_ret
       exact ⟨er_, bb_⟩
      ·rw [if_neg c7] at H
       have iV : (((bI bS bA).f1) == 0) = false := beq_eq_false_iff_ne.mpr c7; have zG : (((bI bS bA).f1) != 0) = true := bne_iff_ne.mpr c7; replace H := aBp H; obtain ⟨c0B, a00, H⟩ := H
       try dsimp only at H
       have A15 := am_ a00; clear a00
       by_cases c16 : c0B = true
       ·subst c16
        rw [if_pos rfl] at H
        by_cases c17 : bA > 0
        ·rw [if_pos c17] at H
         have b5K := decide_eq_true c17; clear c17; obtain ⟨a0J, XQ⟩ : ∃ j_ : Int, (wrap64 (bA - 1)) = j_ := ⟨_, rfl⟩; (replace H : (if 0 ≤ (a0J) then (if (a0J) < (bS.length : Int) then ((bK.f k1 ((bI bS (a0J)).f0) ((bI bS bA).f0)).bind fun b6V => (if b6V ≥ 0 then (some false) else (dJ.l0 k1 (wrap64 (bA + 1)) aA bS))) else (none)) else (none)) = some r := by first | (rw [XQ] at H; exact H) | (simp only [XQ] at H ⊢; exact H)); (try rw [XQ] at A5); (try rw [XQ] at A15); have d2O : (IntKind.i64.wrap (bA - 1)) = a0J := (aCj _).trans XQ
         by_cases c19 : 0 ≤ (a0J)
         ·rw [if_pos c19] at H
          have U4 := decide_eq_true c19; clear c19
          by_cases c20 : (a0J) < (bS.length : Int)
          ·rw [if_pos c20] at H
           have d80 := decide_eq_true c20; clear c20; replace H := aBp H; obtain ⟨b6V, b5U, H⟩ := H
           try dsimp only at H
           have A21 := am_ b5U; clear b5U; have gY := am_ H; clear H; (have bUU : 0 ≤ ((a0J) : Int) := oa_); (have bXA : (a0J) < (bS.length : Int) := oa_); obtain ⟨c7W, bXD, bRM, e335, QZ, OV, aRT, aRI⟩ := G9 xG.out (a0J) bUU bXA; obtain rfl : bPB = c7W := (by injection e335); obtain ⟨bKY, bEG⟩ := aSr HB QZ OV; have aS7 := am_ aRI; have bMK := am_ aRT; clear aRI aRT; replace bUU := eq_true bUU; replace bXA := eq_true bXA; (refine st_ 34 (aFt jV (aFt iM (hc_ ((hb_ HB QZ)) (hf_ ((hb_ HB OV)))))) (fun hHeld => ?_); refine aAv dJ.MV dJ.xI (fun HT_ HW_ => ?_)); generalize w12.drew = w28 at iM jV HB aS7 bKY bEG hHeld ⊢; refine pl_ ?_; refine aBa 2 (bm 34 5) ?_; refine aCx 1 (tf 3 31) ?_; refine tl_ ?_; refine aCm (i := 4) (N := some 21) (tf 5 29) (h := fun K hK => ?_); refine gs_ Tryz.func103 #[.slice zT ((bI bS bA).f0).length zN, .int .i64 aA] ?_; (with_reducible refine (gN.calls _ _ _ _ _ _ _ (cb_ KU HB) KM.out A5.out).mono ?_); rintro e w29 ⟨rfl, hb⟩; refine ⟨_, rfl, ?_⟩; replace iM := aAt iM hb; replace jV := aAt jV hb; replace HB := bs_ hb; (try clear hb); refine hK.out _ _ (aFt jV (aFt iM (hc_ (hb_ HB QZ) (hf_ (hb_ HB OV))))) (fun hHeld => ?_); clear hK K; refine nm_ ?_; refine aBa 5 (tf 6 28) ?_
           iterate 2 (refine pl_ ?_)
           refine tl_ ?_
           iterate 4 (refine pl_ ?_)
           refine tl_ ?_; refine aCm (i := 14) (N := some 31) (tf 15 19) (h := fun K hK => ?_); refine gs_ Tryz.func50 #[.int .i64 ((bI bS bA).f1), .int .i64 (-1000000000), .int .i64 1000000000] ?_; (with_reducible refine (bN.calls _ _ _ _ _ A15.out).mono ?_); rintro e w' ⟨rfl, ⟨nd, rfl⟩⟩; refine ⟨_, rfl, ?_⟩; refine hK.out _ _ (aFt jV (aFt iM (hc_ (hb_ HB QZ) (hf_ (hb_ HB OV))))) (fun hHeld => ?_); clear hK K; refine nm_ ?_; refine aBa 15 (tf 16 18) ?_
           iterate 6 (refine pl_ ?_)
           refine aBa 23 (bm 34 12582911) ?_; refine aBa 24 (bm 34 29360127) ?_; refine aBa 28 (bm 34 297795583) ?_; refine aCx 22 (bm 34 301989887) ?_; refine aBa 25 (bm 34 335544319) ?_; refine aBa 26 (bm 34 402653183) ?_; refine aCx 27 (tf 29 5) ?_; refine tl_ ?_; refine aCm (i := 30) (N := some 47) (tf 31 3) (h := fun K hK => ?_); (refine aVh Tryz.func104 (by kernel_rfl) rfl #[.slice bXD ((bI bS (a0J)).f0).length bRM, .slice zT ((bI bS bA).f0).length zN] (by rfl) rfl rfl (by (try simp only [List.map_toArray, List.map_cons, List.map_nil]); first | done | (simp only [XQ]; rfl) | rfl | (simp only [List.length_drop, List.length_take]; rfl)) ?_); (with_reducible refine (bK.calls _ _ _ _ _ _ _ _ _ (ck_ (Kd.aAp aS7.out bb_)) bMK.out (ck_ (Kd.aAp KU.out bb_)) KM.out A21.out).mono ?_); rintro e w30 ⟨rfl, hb⟩; refine ⟨_, rfl, ?_⟩; replace iM := aAt iM hb; replace jV := aAt jV hb; replace HB := bs_ hb; (try clear hb); refine hK.out _ _ (aFt jV (aFt iM (hc_ (hb_ HB QZ) (hf_ (hb_ HB OV))))) (fun hHeld => ?_); clear hK K; refine nm_ ?_; have H := gY.out; clear gY
           by_cases NK : b6V ≥ 0
           ·rw [if_pos NK] at H
            have YV := decide_eq_true NK; clear NK; obtain rfl := Option.some.inj H; refine aBa 31 (tf 32 2) ?_
            iterate 2 (refine pl_ ?_)
            refine dn_ ?_
            try go_wp2
            go_ret
            (exact ⟨by first | rfl | (simp [aBo, aBq] <;> rfl) | (simp only [← XQ]; first | rfl | (simp [aBo, aBq] <;> rfl)) | (simp [*, aBo, aBq] <;> rfl), by repeat (first | (with_reducible first | exact HB.out | apply aAi | apply aAo | apply aAm | refine aAk ?_ c7K.out | refine aAk ?_ cHQ.out) | exact HB.out)⟩)
           ·rw [if_neg NK] at H
            have YV := decide_eq_false NK; clear NK; have H' := am_ H; clear H; refine aBa 31 (tf 32 2) ?_
            iterate 2 (refine pl_ ?_)
            refine dn_ ?_
            try go_wp2
            go_roundg k1
            case measure => have := jK.out; omega
            case rel => exact ⟨(wrap64 (bA + 1)), rs_, H', ⟨by have := jK.out; omega⟩, ⟨aBx iM.out⟩, ⟨bb_⟩⟩
          ·rw [if_neg c20] at H
           exact nn_ H
         ·rw [if_neg c19] at H
          exact nn_ H
        ·rw [if_neg c17] at H
         have b5K := decide_eq_false c17; clear c17; have H' := am_ H; clear H; (refine st_ 34 (aFt jV (aKh iM)) (fun hHeld => ?_); refine aAv dJ.MV dJ.xI (fun HT_ HW_ => ?_)); generalize w12.drew = w44 at iM jV HB hHeld ⊢; refine pl_ ?_; refine aBa 2 (bm 34 5) ?_; refine aCx 1 (tf 3 31) ?_; refine tl_ ?_; refine aCm (i := 4) (N := some 21) (tf 5 29) (h := fun K hK => ?_); refine gs_ Tryz.func103 #[.slice zT ((bI bS bA).f0).length zN, .int .i64 aA] ?_; (with_reducible refine (gN.calls _ _ _ _ _ _ _ (cb_ KU HB) KM.out A5.out).mono ?_); rintro e w45 ⟨rfl, hb⟩; refine ⟨_, rfl, ?_⟩; replace iM := aAt iM hb; replace jV := aAt jV hb; replace HB := bs_ hb; (try clear hb); refine hK.out _ _ (aFt jV (aKh iM)) (fun hHeld => ?_); clear hK K; refine nm_ ?_; refine aBa 5 (tf 6 28) ?_
         iterate 2 (refine pl_ ?_)
         refine tl_ ?_
         iterate 4 (refine pl_ ?_)
         refine tl_ ?_; refine aCm (i := 14) (N := some 31) (tf 15 19) (h := fun K hK => ?_); refine gs_ Tryz.func50 #[.int .i64 ((bI bS bA).f1), .int .i64 (-1000000000), .int .i64 1000000000] ?_; (with_reducible refine (bN.calls _ _ _ _ _ A15.out).mono ?_); rintro e w' ⟨rfl, ⟨nd, rfl⟩⟩; refine ⟨_, rfl, ?_⟩; refine hK.out _ _ (aFt jV (aKh iM)) (fun hHeld => ?_); clear hK K; refine nm_ ?_; refine aBa 15 (tf 16 18) ?_
         iterate 5 (refine pl_ ?_)
         iterate 11 (refine pd_ ?_)
         iterate 2 (refine pl_ ?_)
         refine dn_ ?_
         try go_wp2
         go_roundg k1
         case measure => have := jK.out; omega
         case rel => exact ⟨(wrap64 (bA + 1)), rs_, H', ⟨by have := jK.out; omega⟩, ⟨aBx iM.out⟩, ⟨bb_⟩⟩
       ·replace c16 := Bool.eq_false_iff.mpr c16
        subst c16; replace H := aZf H; obtain rfl := Option.some.inj H; (refine st_ 34 (aFt jV (aKh iM)) (fun hHeld => ?_); refine aAv dJ.MV dJ.xI (fun HT_ HW_ => ?_)); generalize w12.drew = w51 at iM jV HB hHeld ⊢; refine pl_ ?_; refine aBa 2 (bm 34 5) ?_; refine aCx 1 (tf 3 31) ?_; refine tl_ ?_; refine aCm (i := 4) (N := some 21) (tf 5 29) (h := fun K hK => ?_); refine gs_ Tryz.func103 #[.slice zT ((bI bS bA).f0).length zN, .int .i64 aA] ?_; (with_reducible refine (gN.calls _ _ _ _ _ _ _ (cb_ KU HB) KM.out A5.out).mono ?_); rintro e w52 ⟨rfl, hb⟩; refine ⟨_, rfl, ?_⟩; replace iM := aAt iM hb; replace jV := aAt jV hb; replace HB := bs_ hb; (try clear hb); refine hK.out _ _ (aFt jV (aKh iM)) (fun hHeld => ?_); clear hK K; refine nm_ ?_; refine aBa 5 (tf 6 28) ?_
        iterate 2 (refine pl_ ?_)
        refine tl_ ?_
        iterate 4 (refine pl_ ?_)
        refine tl_ ?_; refine aCm (i := 14) (N := some 31) (tf 15 19) (h := fun K hK => ?_); refine gs_ Tryz.func50 #[.int .i64 ((bI bS bA).f1), .int .i64 (-1000000000), .int .i64 1000000000] ?_; (with_reducible refine (bN.calls _ _ _ _ _ A15.out).mono ?_); rintro e w' ⟨rfl, ⟨nd, rfl⟩⟩; refine ⟨_, rfl, ?_⟩; refine hK.out _ _ (aFt jV (aKh iM)) (fun hHeld => ?_); clear hK K; refine nm_ ?_; refine aBa 15 (tf 16 18) ?_
        iterate 2 (refine pl_ ?_)
        iterate 15 (refine pd_ ?_)
        refine pl_ ?_; refine dn_ ?_
        try go_wp2
        go_ret
        exact ⟨er_, bb_⟩
     ·replace c6 := Bool.eq_false_iff.mpr c6
      subst c6; replace H := aZf H; obtain rfl := Option.some.inj H; (refine st_ 34 (aFt jV (aKh iM)) (fun hHeld => ?_); refine aAv dJ.MV dJ.xI (fun HT_ HW_ => ?_)); generalize w12.drew = w58 at iM jV HB hHeld ⊢; refine pl_ ?_; refine aBa 2 (bm 34 5) ?_; refine aCx 1 (tf 3 31) ?_; refine tl_ ?_; refine aCm (i := 4) (N := some 21) (tf 5 29) (h := fun K hK => ?_); refine gs_ Tryz.func103 #[.slice zT ((bI bS bA).f0).length zN, .int .i64 aA] ?_; (with_reducible refine (gN.calls _ _ _ _ _ _ _ (cb_ KU HB) KM.out A5.out).mono ?_); rintro e w59 ⟨rfl, hb⟩; refine ⟨_, rfl, ?_⟩; replace iM := aAt iM hb; replace jV := aAt jV hb; replace HB := bs_ hb; (try clear hb); refine hK.out _ _ (aFt jV (aKh iM)) (fun hHeld => ?_); clear hK K; refine nm_ ?_; refine aBa 5 (tf 6 28) ?_; refine pl_ ?_
      iterate 3 (refine pd_ ?_)
      iterate 2 (refine pl_ ?_)
      iterate 4 (refine pd_ ?_)
      iterate 2 (refine pl_ ?_)
      iterate 15 (refine pd_ ?_)
      refine pl_ ?_; refine dn_ ?_
      try go_wp2
      go_ret
      exact ⟨er_, bb_⟩
    ·rw [if_neg c4] at H
     exact nn_ H
   ·rw [if_neg c3] at H
    have fC := decide_eq_false c3; clear c3; replace H := aBp H; obtain ⟨bY0, cJG, H⟩ := H
    try dsimp only at H
    have D6 := am_ cJG; clear cJG
    by_cases c61 : bY0 = true
    ·subst c61
     rw [if_pos rfl] at H; obtain rfl := Option.some.inj H; obtain ⟨cMR, cYP, cR7, cWZ⟩ := b2_ iM
     go_wp2_with (first | ((with_reducible refine aAa (f := 50) rfl ?_); refine aBh (some 53) Tryz.func50 #[.int .i64 aA, .int .i64 0, .int .i64 12] ?_; (with_reducible refine (bN.calls _ _ _ _ _ D6.out).mono ?_); rintro e w' ⟨rfl, ⟨nd, rfl⟩⟩; refine ⟨_, rfl, ?_⟩))
     go_ret
     exact ⟨er_, bb_⟩
    ·replace c61 := Bool.eq_false_iff.mpr c61
     subst c61; replace H := aZf H; obtain rfl := Option.some.inj H; obtain ⟨cN9, cO2, d13, cN0⟩ := b2_ iM
     go_wp2_with (first | ((with_reducible refine aAa (f := 50) rfl ?_); refine aBh (some 53) Tryz.func50 #[.int .i64 aA, .int .i64 0, .int .i64 12] ?_; (with_reducible refine (bN.calls _ _ _ _ _ D6.out).mono ?_); rintro e w' ⟨rfl, ⟨nd, rfl⟩⟩; refine ⟨_, rfl, ?_⟩))
     go_ret
     exact ⟨er_, bb_⟩
def jD.l0 : Nat → Int → Int → List S126 → Option Bool
 | 0, _, _, _ => none
 | k + 1, x3, aUW, XD => if x3 < (XD.length : Int) then (if 0 ≤ x3 then (if ((bI XD x3).f1) < 0 then (some false) else (jD.l0 k (wrap64 (x3 + 1)) aUW XD)) else (none)) else ((dJ.f k aUW XD).bind fun cL6 => (some cL6))
def jD.f (k : Nat) (aA : Int) (bS : List S126) : Option Bool := jD.l0 k 0 aA bS
theorem jD.calls (k : Nat) (aA : Int) (lW : Option Addr) (lS : Nat) (bS : List S126) (r : Bool) (w : World) (qC : Kd.C jU w lW bS.length bS) (sN : bS.length ≤ lS) (h : jD.f k aA bS = some r) :
  Calls Tryz.prog 56 #[.agg #[.int .i64 aA, .slice lW bS.length lS]] w fun e w' => e = .returned (.bool r) ∧ Below w.heap.size w w' := by
 have NT := Tryz.underlying66
 have xG := am_ qC
 have JH := am_ sN
 clear qC sN
 have HB := am_ (Below.refl w.heap.size w)
 have H : (jD.l0 k 0 aA bS) = some r := h
 clear h
 have H' := am_ H
 clear H
 go_enter Tryz.func56, Tryz.ntmps56
 go_wp2_with (first | ((with_reducible refine aAc (N := 1) rfl ?_); refine bx_ 1 #[.int .i64 aA, .slice lW bS.length lS] 66 ?_; intro c4X hg w2 hbox hb; have ZR := am_ (hbox); have d8T := gw_ hg; replace HB := bs_ hb; clear hb hbox hg))
 go_loopg [3] k (fun kq v3 w' => ∃ (bA : Int), v3 = .int .i64 bA ∧ Aside0 (jD.l0 kq bA aA bS = some r) ∧ Aside0 (kq ≤ k) ∧ Aside0 (w'.heap[c4X]? = some (.cells #[.int .i64 aA, (.slice lW bS.length lS)] 66 (0, 0))) ∧ Aside0 (Below w.heap.size w w'))
 case atStart => exact ⟨(0), rs_, H', ⟨Nat.le_refl _⟩, ⟨aBx ZR.out⟩, ⟨bb_⟩⟩
 case round =>
  clear H'; (try clear p2); obtain ⟨bA, rfl, HA, jK, ZR, HB⟩ := hrel
  cases gk with
  | zero => exact absurd HA.out (by simp [jD.l0])
  | succ k1 =>
   have H := HA.out; clear HA; simp only [jD.l0] at H
   by_cases c3 : bA < (bS.length : Int)
   ·rw [if_pos c3] at H
    have fC := decide_eq_true c3; clear c3
    by_cases c4 : 0 ≤ bA
    ·rw [if_pos c4] at H
     have iB := decide_eq_true c4; clear c4; have gY := am_ H; clear H; obtain ⟨kW, kU, kY, lH⟩ := b2_ ZR; (have bRK : 0 ≤ (bA : Int) := oa_); (have c0O : bA < (bS.length : Int) := oa_); obtain ⟨d8G, d39, d36, d5Z, aK9, aSQ, aTO, aP6⟩ := G9 xG.out bA bRK c0O; cases d5Z; obtain ⟨aK9, aSQ⟩ := aSr HB aK9 aSQ; have cZA := am_ aP6; have cSM := am_ aTO; clear aP6 aTO; replace bRK := eq_true bRK; replace c0O := eq_true c0O; have H := gY.out; clear gY
     by_cases c5 : ((bI bS bA).f1) < 0
     ·rw [if_pos c5] at H
      have pV := decide_eq_true c5; clear c5; obtain rfl := Option.some.inj H
      go_wp2
      go_ret
      exact ⟨er_, bb_⟩
     ·rw [if_neg c5] at H
      have pV := decide_eq_false c5; clear c5; have H' := am_ H; clear H
      go_wp2
      go_roundg k1
      case measure => have := jK.out; omega
      case rel => exact ⟨(wrap64 (bA + 1)), rs_, H', ⟨by have := jK.out; omega⟩, ⟨aBx ZR.out⟩, ⟨bb_⟩⟩
    ·rw [if_neg c4] at H
     exact nn_ H
   ·rw [if_neg c3] at H
    have fC := decide_eq_false c3; clear c3; replace H := aBp H; obtain ⟨cL6, RY, H⟩ := H
    try dsimp only at H
    have A8 := am_ RY; clear RY; obtain rfl := Option.some.inj H; obtain ⟨mX, nC, nH, nG⟩ := b2_ ZR
    go_wp2_with (first | ((with_reducible refine aAa (f := 80) rfl ?_); refine aBh (some 19) Tryz.func80 #[.agg #[.int .i64 aA, .slice lW bS.length lS]] ?_; (with_reducible refine (dJ.calls _ _ _ _ _ _ _ (cb_ xG HB) JH.out A8.out).mono ?_); rintro e w10 ⟨rfl, hb⟩; refine ⟨_, rfl, ?_⟩; replace ZR := aAt ZR hb; replace HB := bs_ hb; (try clear hb)))
    go_ret
    exact ⟨er_, bb_⟩
def eF.l0 : Nat → List S68 → Int → Option Bool
 | 0, _, _ => none
 | k + 1, x0, x3 => if x3 < (x0.length : Int) then (if 0 ≤ x3 then ((eB.f k ((dE x0 x3).f0)).bind fun c0G => (if c0G = true then ((jD.f k ((dE x0 x3).f1.f0) ((dE x0 x3).f1.f1)).bind fun bUC => (if bUC = true then (if x3 > 0 then (if 0 ≤ (wrap64 (x3 - 1)) then (if (wrap64 (x3 - 1)) < (x0.length : Int) then (if ((Op.bytesLess (((dE x0 (wrap64 (x3 - 1))).f0).toList) (((dE x0 x3).f0).toList)) = true) then (eF.l0 k x0 (wrap64 (x3 + 1))) else (some false)) else (none)) else (none)) else (eF.l0 k x0 (wrap64 (x3 + 1)))) else (some false))) else (some false))) else (none)) else (some (decide ((x0.length : Int) ≤ 20)))
def eF.f (k : Nat) (l0 : List S68) : Option Bool := eF.l0 k l0 0
def eF.T4 : Bool × List (List Nat × List Nat) := (true, [([], []), ([], []), ([0, 1], [0, 1]), ([2], [2]), ([3], [3]), ([4], [4]), ([5], [5]), ([6, 5], [6]), ([7], [7]), ([7], [7]), ([8, 9, 7], [7, 8, 9]), ([10, 7], [7, 10]), ([11, 7], [7, 11]), ([12, 7, 7], [7, 12]), ([13, 7], [7, 13]), ([7, 14], [7, 14]), ([15, 13], [15]), ([16], [16]), ([17, 16], [16, 17]), ([18, 16, 16], [16, 18]), ([19], [19]), ([19], [19]), ([20, 21, 19], [19, 20, 21]), ([22, 19], [19, 22]), ([23, 19], [19, 23]), ([19], [19]), ([19], [19]), ([26, 19], [19, 26]), ([25, 27, 19], [19, 25, 27]), ([28, 19], [19, 28]), ([29, 19], [19, 29]), ([24, 30, 19], [19, 24, 30]), ([19, 31, 16], [16, 19, 31]), ([16, 32], [16, 32])])
def eF.B4 : List Nat := [0, 0, 3, 7, 15, 31, 63, 127, 255, 255, 1023, 2047, 4095, 8191, 16383, 32767, 65535, 131071, 262143, 524287, 1048575, 1048575, 4194303, 8388607, 16777215, 1048575, 1048575, 68157439, 235929599, 504365055, 1041235967, 2147483647, 4294967295, 8589934591]
theorem eF.aYW : aEr .any (opsOf Tryz.f35 4) = eF.T4 := by kernel_rfl
theorem eF.a1T : aBu eF.T4.2 eF.B4 = true := by kernel_rfl
theorem eF.calls (k : Nat) (A0 : Option Addr) (c0 : Nat) (l0 : List S68) (r : Bool) (w : World) (hr0 : Kd.C BC w A0 l0.length l0) (hc0 : l0.length ≤ c0) (h : eF.f k l0 = some r) :
  Calls Tryz.prog 35 #[.slice A0 l0.length c0] w fun e w' => e = .returned (.bool r) ∧ Below w.heap.size w w' := by
 have NT := Tryz.underlying66
 have jY := am_ hr0
 have oQ := am_ hc0
 clear hr0 hc0
 have HB := am_ (Below.refl w.heap.size w)
 have H : (eF.l0 k l0 0) = some r := h
 clear h
 have H' := am_ H
 clear H
 go_enter Tryz.func35, Tryz.ntmps35
 go_wp2
 go_loopg [3] k (fun kq v3 w' => ∃ (bA : Int), v3 = .int .i64 bA ∧ Aside0 (eF.l0 kq l0 bA = some r) ∧ Aside0 (kq ≤ k) ∧ Aside0 (Below w.heap.size w w'))
 case atStart => exact ⟨(0), rs_, H', ⟨Nat.le_refl _⟩, ⟨bb_⟩⟩
 case round =>
  clear H'; obtain ⟨bA, rfl, HA, jK, HB⟩ := hrel
  cases gk with
  | zero => exact absurd HA.out (by simp [eF.l0])
  | succ k1 =>
   have H := HA.out; clear HA; simp only [eF.l0] at H
   by_cases c2 : bA < (l0.length : Int)
   ·rw [if_pos c2] at H
    have qD := decide_eq_true c2; clear c2
    by_cases c3 : 0 ≤ bA
    ·rw [if_pos c3] at H
     have fC := decide_eq_true c3; clear c3; replace H := aBp H; obtain ⟨c0G, N9, H⟩ := H
     try dsimp only at H
     have A4 := am_ N9; clear N9; have gY := am_ H; clear H
     try go_wp2
     replace HB := am_ (aAm HB.out); (have c0P : 0 ≤ (bA : Int) := oa_); (have bTR : bA < (l0.length : Int) := oa_); obtain ⟨b8F, aK2, aK4, d6B, rF, rC, rG, aSZ, aWB⟩ := DW jY.out bA c0P bTR; cases d6B; obtain ⟨WB, WZ, PK⟩ := aNo HB rF rC rG; have UV := am_ aWB; have cQC := am_ aSZ; clear aWB aSZ; replace c0P := eq_true c0P; replace bTR := eq_true bTR; have H := gY.out; clear gY
     by_cases c5 : c0G = true
     ·subst c5
      rw [if_pos rfl] at H; replace H := aBp H; obtain ⟨bUC, D6, H⟩ := H
      try dsimp only at H
      have A6 := am_ D6; clear D6; have gY := am_ H; clear H; (have bYJ : 0 ≤ (bA : Int) := oa_); (have bY8 : bA < (l0.length : Int) := oa_); obtain ⟨cEH, d4B, d6W, d6R, vU, vH, vO, aLN, aVL⟩ := DW jY.out bA bYJ bY8; obtain rfl : b8F = cEH := (by injection d6R); obtain ⟨a4P, a4T, V6⟩ := aNo HB vU vH vO; have MG := am_ aVL; have a3M := am_ aLN; clear aVL aLN; replace bYJ := eq_true bYJ; replace bY8 := eq_true bY8; have rW := Option.some.inj (PK.symm.trans V6); injection rW with rW SI TD; subst rW; subst TD; clear SI; have H := gY.out; clear gY
      by_cases c7 : bUC = true
      ·subst c7
       rw [if_pos rfl] at H
       by_cases c8 : bA > 0
       ·rw [if_pos c8] at H
        have J4 := decide_eq_true c8; clear c8; obtain ⟨ji9, aYB⟩ : ∃ j_ : Int, (wrap64 (bA - 1)) = j_ := ⟨_, rfl⟩; (replace H : (if 0 ≤ (ji9) then (if (ji9) < (l0.length : Int) then (if ((Op.bytesLess (((dE l0 (ji9)).f0).toList) (((dE l0 bA).f0).toList)) = true) then (eF.l0 k1 l0 (wrap64 (bA + 1))) else (some false)) else (none)) else (none)) = some r := by first | (rw [aYB] at H; exact H) | (simp only [aYB] at H ⊢; exact H)); (try rw [aYB] at A4); (try rw [aYB] at A6); have dAR : (IntKind.i64.wrap (bA - 1)) = ji9 := (aCj _).trans aYB
        by_cases c10 : 0 ≤ (ji9)
        ·rw [if_pos c10] at H
         have UA := decide_eq_true c10; clear c10
         by_cases c11 : (ji9) < (l0.length : Int)
         ·rw [if_pos c11] at H
          have ND := decide_eq_true c11; clear c11; have gY := am_ H; clear H; (have bYZ : 0 ≤ (bA : Int) := oa_); (have bXG : bA < (l0.length : Int) := oa_); obtain ⟨cD7, d60, d71, e344, VO, X5, VI, aMP, aMG⟩ := DW jY.out bA bYZ bXG; obtain rfl : b8F = cD7 := (by injection e344); obtain ⟨bMV, bBG, bJD⟩ := aNo HB VO X5 VI; have bHJ := am_ aMG; have cS1 := am_ aMP; clear aMG aMP; replace bYZ := eq_true bYZ; replace bXG := eq_true bXG; (have bU3 : 0 ≤ ((ji9) : Int) := oa_); (have bVQ : (ji9) < (l0.length : Int) := oa_); obtain ⟨cD6, d24, d4F, e345, X6, UY, VZ, aQ2, aTX⟩ := DW jY.out (ji9) bU3 bVQ; obtain rfl : b8F = cD6 := (by injection e345); obtain ⟨bD5, bCZ, bEN⟩ := aNo HB X6 UY VZ; have bOB := am_ aTX; have cZR := am_ aQ2; clear aTX aQ2; replace bU3 := eq_true bU3; replace bVQ := eq_true bVQ; (refine st_ 34 (hc_ ((hb_ HB rF)) (hc_ ((hb_ HB rC)) (hc_ ((hb_ HB rG)) (hc_ ((hb_ HB vU)) (hc_ ((hb_ HB vH)) (hc_ ((hb_ HB vO)) (hc_ ((hb_ HB VO)) (hc_ ((hb_ HB X5)) (hc_ ((hb_ HB VI)) (hc_ ((hb_ HB X6)) (hc_ ((hb_ HB UY)) (hf_ ((hb_ HB VZ)))))))))))))) (fun hHeld => ?_); refine aAv eF.aYW eF.a1T (fun HT_ HW_ => ?_)); generalize wr.drew = ZO at HB UV MG bHJ bOB WB WZ PK a4P a4T V6 bMV bBG bJD bD5 bCZ bEN hHeld ⊢
          iterate 4 (refine pl_ ?_)
          refine tl_ ?_; refine aCm (i := 5) (N := some 15) (tf 6 28) (h := fun K hK => ?_); refine gs_ Tryz.func34 #[.string ((dE l0 bA).f0)] ?_; (with_reducible refine (eB.calls _ _ _ _ A4.out).mono ?_); rintro e w' ⟨rfl, ⟨nd, rfl⟩⟩; refine ⟨_, rfl, ?_⟩; refine hK.out _ _ (hc_ (hb_ HB rF) (hc_ (hb_ HB rC) (hc_ (hb_ HB rG) (hc_ (hb_ HB vU) (hc_ (hb_ HB vH) (hc_ (hb_ HB vO) (hc_ (hb_ HB VO) (hc_ (hb_ HB X5) (hc_ (hb_ HB VI) (hc_ (hb_ HB X6) (hc_ (hb_ HB UY) (hf_ (hb_ HB VZ))))))))))))) (fun hHeld => ?_); clear hK K; refine nm_ ?_; refine aBa 6 (tf 7 27) ?_
          iterate 5 (refine pl_ ?_)
          refine tl_ ?_; refine aCm (i := 13) (N := some 23) (tf 14 20) (h := fun K hK => ?_); refine gs_ Tryz.func56 #[.agg #[.int .i64 ((dE l0 bA).f1.f0), .slice aK2 ((dE l0 bA).f1.f1).length aK4]] ?_; (with_reducible refine (jD.calls _ _ _ _ _ _ _ (ck_ (Kd.aAp MG.out bb_)) a3M.out A6.out).mono ?_); rintro e w14 ⟨rfl, hb⟩; refine ⟨_, rfl, ?_⟩; replace HB := bs_ hb; (try clear hb); refine hK.out _ _ (hc_ (hb_ HB rF) (hc_ (hb_ HB rC) (hc_ (hb_ HB rG) (hc_ (hb_ HB vU) (hc_ (hb_ HB vH) (hc_ (hb_ HB vO) (hc_ (hb_ HB VO) (hc_ (hb_ HB X5) (hc_ (hb_ HB VI) (hc_ (hb_ HB X6) (hc_ (hb_ HB UY) (hf_ (hb_ HB VZ))))))))))))) (fun hHeld => ?_); clear hK K; refine nm_ ?_; have H := gY.out; clear gY
          by_cases c12 : ((Op.bytesLess (((dE l0 (ji9)).f0).toList) (((dE l0 bA).f0).toList)) = true)
          ·rw [if_pos c12] at H
           have uK : (Op.bytesLess (((dE l0 (ji9)).f0).toList) (((dE l0 bA).f0).toList)) = true := c12; clear c12; have H' := am_ H; clear H; refine aBa 14 (tf 15 19) ?_
           iterate 9 (refine pl_ ?_)
           refine aBa 25 (bm 34 50331647) ?_; refine aBa 26 (bm 34 117440511) ?_; refine aBa 27 (bm 34 251658239) ?_; refine aBa 28 (bm 34 520093695) ?_; refine aBa 29 (bm 34 1056964607) ?_; refine aCx 24 (tf 30 4) ?_; refine tl_ ?_
           iterate 3 (refine pl_ ?_)
           refine dn_ ?_
           try go_wp2
           go_roundg k1
           case measure => have := jK.out; omega
           case rel => exact ⟨(wrap64 (bA + 1)), rs_, H', ⟨by have := jK.out; omega⟩, ⟨bb_⟩⟩
          ·rw [if_neg c12] at H
           (have uK : (Op.bytesLess (((dE l0 (ji9)).f0).toList) (((dE l0 bA).f0).toList)) = false := by simpa using c12); clear c12; obtain rfl := Option.some.inj H; refine aBa 14 (tf 15 19) ?_
           iterate 9 (refine pl_ ?_)
           refine aBa 25 (bm 34 50331647) ?_; refine aBa 26 (bm 34 117440511) ?_; refine aBa 27 (bm 34 251658239) ?_; refine aBa 28 (bm 34 520093695) ?_; refine aBa 29 (bm 34 1056964607) ?_; refine aCx 24 (tf 30 4) ?_; refine tl_ ?_
           iterate 3 (refine pl_ ?_)
           refine dn_ ?_
           try go_wp2
           go_ret
           (exact ⟨by first | rfl | (simp [aBo, aBq] <;> rfl) | (simp only [← aYB]; first | rfl | (simp [aBo, aBq] <;> rfl)) | (simp [*, aBo, aBq] <;> rfl), by repeat (first | (with_reducible first | exact HB.out | apply aAi | apply aAo | apply aAm) | exact HB.out)⟩)
         ·rw [if_neg c11] at H
          exact nn_ H
        ·rw [if_neg c10] at H
         exact nn_ H
       ·rw [if_neg c8] at H
        have J4 := decide_eq_false c8; clear c8; have H' := am_ H; clear H; (refine st_ 34 (hc_ ((hb_ HB rF)) (hc_ ((hb_ HB rC)) (hc_ ((hb_ HB rG)) (hc_ ((hb_ HB vU)) (hc_ ((hb_ HB vH)) (hf_ ((hb_ HB vO)))))))) (fun hHeld => ?_); refine aAv eF.aYW eF.a1T (fun HT_ HW_ => ?_)); generalize wr.drew = w17 at HB UV MG WB WZ PK a4P a4T V6 hHeld ⊢
        iterate 4 (refine pl_ ?_)
        refine tl_ ?_; refine aCm (i := 5) (N := some 15) (tf 6 28) (h := fun K hK => ?_); refine gs_ Tryz.func34 #[.string ((dE l0 bA).f0)] ?_; (with_reducible refine (eB.calls _ _ _ _ A4.out).mono ?_); rintro e w' ⟨rfl, ⟨nd, rfl⟩⟩; refine ⟨_, rfl, ?_⟩; refine hK.out _ _ (hc_ (hb_ HB rF) (hc_ (hb_ HB rC) (hc_ (hb_ HB rG) (hc_ (hb_ HB vU) (hc_ (hb_ HB vH) (hf_ (hb_ HB vO))))))) (fun hHeld => ?_); clear hK K; refine nm_ ?_; refine aBa 6 (tf 7 27) ?_
        iterate 5 (refine pl_ ?_)
        refine tl_ ?_; refine aCm (i := 13) (N := some 23) (tf 14 20) (h := fun K hK => ?_); refine gs_ Tryz.func56 #[.agg #[.int .i64 ((dE l0 bA).f1.f0), .slice aK2 ((dE l0 bA).f1.f1).length aK4]] ?_; (with_reducible refine (jD.calls _ _ _ _ _ _ _ (ck_ (Kd.aAp MG.out bb_)) a3M.out A6.out).mono ?_); rintro e w18 ⟨rfl, hb⟩; refine ⟨_, rfl, ?_⟩; replace HB := bs_ hb; (try clear hb); refine hK.out _ _ (hc_ (hb_ HB rF) (hc_ (hb_ HB rC) (hc_ (hb_ HB rG) (hc_ (hb_ HB vU) (hc_ (hb_ HB vH) (hf_ (hb_ HB vO))))))) (fun hHeld => ?_); clear hK K; refine nm_ ?_; refine aBa 14 (tf 15 19) ?_
        iterate 5 (refine pl_ ?_)
        iterate 12 (refine pd_ ?_)
        iterate 2 (refine pl_ ?_)
        refine dn_ ?_
        try go_wp2
        go_roundg k1
        case measure => have := jK.out; omega
        case rel => exact ⟨(wrap64 (bA + 1)), rs_, H', ⟨by have := jK.out; omega⟩, ⟨bb_⟩⟩
      ·replace c7 := Bool.eq_false_iff.mpr c7
       subst c7; replace H := aZf H; obtain rfl := Option.some.inj H; (refine st_ 34 (hc_ ((hb_ HB rF)) (hc_ ((hb_ HB rC)) (hc_ ((hb_ HB rG)) (hc_ ((hb_ HB vU)) (hc_ ((hb_ HB vH)) (hf_ ((hb_ HB vO)))))))) (fun hHeld => ?_); refine aAv eF.aYW eF.a1T (fun HT_ HW_ => ?_)); generalize wr.drew = w19 at HB UV MG WB WZ PK a4P a4T V6 hHeld ⊢
       iterate 4 (refine pl_ ?_)
       refine tl_ ?_; refine aCm (i := 5) (N := some 15) (tf 6 28) (h := fun K hK => ?_); refine gs_ Tryz.func34 #[.string ((dE l0 bA).f0)] ?_; (with_reducible refine (eB.calls _ _ _ _ A4.out).mono ?_); rintro e w' ⟨rfl, ⟨nd, rfl⟩⟩; refine ⟨_, rfl, ?_⟩; refine hK.out _ _ (hc_ (hb_ HB rF) (hc_ (hb_ HB rC) (hc_ (hb_ HB rG) (hc_ (hb_ HB vU) (hc_ (hb_ HB vH) (hf_ (hb_ HB vO))))))) (fun hHeld => ?_); clear hK K; refine nm_ ?_; refine aBa 6 (tf 7 27) ?_
       iterate 5 (refine pl_ ?_)
       refine tl_ ?_; refine aCm (i := 13) (N := some 23) (tf 14 20) (h := fun K hK => ?_); refine gs_ Tryz.func56 #[.agg #[.int .i64 ((dE l0 bA).f1.f0), .slice aK2 ((dE l0 bA).f1.f1).length aK4]] ?_; (with_reducible refine (jD.calls _ _ _ _ _ _ _ (ck_ (Kd.aAp MG.out bb_)) a3M.out A6.out).mono ?_); rintro e w20 ⟨rfl, hb⟩; refine ⟨_, rfl, ?_⟩; replace HB := bs_ hb; (try clear hb); refine hK.out _ _ (hc_ (hb_ HB rF) (hc_ (hb_ HB rC) (hc_ (hb_ HB rG) (hc_ (hb_ HB vU) (hc_ (hb_ HB vH) (hf_ (hb_ HB vO))))))) (fun hHeld => ?_); clear hK K; refine nm_ ?_; refine aBa 14 (tf 15 19) ?_
       iterate 2 (refine pl_ ?_)
       iterate 16 (refine pd_ ?_)
       refine pl_ ?_; refine dn_ ?_
       try go_wp2
       go_ret
       exact ⟨er_, bb_⟩
     ·replace c5 := Bool.eq_false_iff.mpr c5
      subst c5; replace H := aZf H; obtain rfl := Option.some.inj H; (refine st_ 34 (hc_ ((hb_ HB rF)) (hc_ ((hb_ HB rC)) (hf_ ((hb_ HB rG))))) (fun hHeld => ?_); refine aAv eF.aYW eF.a1T (fun HT_ HW_ => ?_)); generalize wr.drew = w21 at HB UV WB WZ PK hHeld ⊢
      iterate 4 (refine pl_ ?_)
      refine tl_ ?_; refine aCm (i := 5) (N := some 15) (tf 6 28) (h := fun K hK => ?_); refine gs_ Tryz.func34 #[.string ((dE l0 bA).f0)] ?_; (with_reducible refine (eB.calls _ _ _ _ A4.out).mono ?_); rintro e w' ⟨rfl, ⟨nd, rfl⟩⟩; refine ⟨_, rfl, ?_⟩; refine hK.out _ _ (hc_ (hb_ HB rF) (hc_ (hb_ HB rC) (hf_ (hb_ HB rG)))) (fun hHeld => ?_); clear hK K; refine nm_ ?_; refine aBa 6 (tf 7 27) ?_; refine pl_ ?_
      iterate 7 (refine pd_ ?_)
      iterate 2 (refine pl_ ?_)
      iterate 16 (refine pd_ ?_)
      refine pl_ ?_; refine dn_ ?_
      try go_wp2
      go_ret
      exact ⟨er_, bb_⟩
    ·rw [if_neg c3] at H
     exact nn_ H
   ·rw [if_neg c2] at H
    have qD := decide_eq_false c2; clear c2; obtain rfl := Option.some.inj H
    go_wp2
    go_ret
    exact ⟨er_, bb_⟩
def bR.l0 : Nat → List S68 → List S83 → Int → Option Bool
 | 0, _, _, _ => none
 | k + 1, x0, x1, x5 => if x5 < (x1.length : Int) then (if 0 ≤ x5 then ((gL.f k x0 ((aAl x1 x5).f0)).bind fun c5R => ((eB.f k ((aAl x1 x5).f0)).bind fun bU9 => (if bU9 = true then (if c5R.2.2 = true then (some false) else ((rT.f k x0 ((aAl x1 x5).f1.f0) ((aAl x1 x5).f1.f1) ((aAl x1 x5).f1.f2.f0) ((aAl x1 x5).f1.f2.f1) ((aAl x1 x5).f1.f2.f2.f0) ((aAl x1 x5).f1.f2.f2.f1) ((aAl x1 x5).f1.f2.f2.f2) ((aAl x1 x5).f1.f2.f3) ((aAl x1 x5).f1.f2.f4) ((aAl x1 x5).f1.f3) ((aAl x1 x5).f1.f4) ((aAl x1 x5).f1.f5)).bind fun bXY => (if bXY < 0 then (some false) else (if x5 > 0 then (if 0 ≤ (wrap64 (x5 - 1)) then (if (wrap64 (x5 - 1)) < (x1.length : Int) then (if ((Op.bytesLess (((aAl x1 (wrap64 (x5 - 1))).f0).toList) (((aAl x1 x5).f0).toList)) = true) then (bR.l0 k x0 x1 (wrap64 (x5 + 1))) else (some false)) else (none)) else (none)) else (bR.l0 k x0 x1 (wrap64 (x5 + 1))))))) else (some false)))) else (none)) else ((eF.f k x0).bind fun c0V => (if c0V = true then (some (decide ((x1.length : Int) ≤ 10))) else (some false)))
def bR.f (k : Nat) (l0 : List S68) (l1 : List S83) : Option Bool := bR.l0 k l0 l1 0
def bR.T5 : Bool × List (List Nat × List Nat) := (true, [([], []), ([], []), ([0, 1], [0, 1]), ([2], [2]), ([3], [3]), ([4], [4]), ([5], [5]), ([6, 5], [6]), ([7], [7]), ([7, 8], [7, 8]), ([9, 7], [9]), ([10], [10]), ([10], [10]), ([10], [10]), ([12, 13, 10], [10, 12, 13]), ([14, 10], [10, 14]), ([15, 10], [10, 15]), ([11, 16, 10, 10], [10, 11, 16]), ([17, 10], [10, 17]), ([10, 18], [10, 18]), ([19, 17], [19]), ([20], [20]), ([21, 20], [20, 21]), ([22, 20, 20], [20, 22]), ([23], [23]), ([23], [23]), ([24, 25, 23], [23, 24, 25]), ([26, 23], [23, 26]), ([27, 23], [23, 27]), ([23], [23]), ([23], [23]), ([30, 23], [23, 30]), ([29, 31, 23], [23, 29, 31]), ([32, 23], [23, 32]), ([33, 23], [23, 33]), ([28, 34, 23], [23, 28, 34]), ([23, 35, 20], [20, 23, 35]), ([20, 36], [20, 36])])
def bR.B5 : List Nat := [0, 0, 3, 7, 15, 31, 63, 127, 255, 511, 1023, 2047, 2047, 2047, 14335, 30719, 63487, 131071, 262143, 524287, 1048575, 2097151, 4194303, 8388607, 16777215, 16777215, 67108863, 134217727, 268435455, 16777215, 16777215, 1090519039, 3774873599, 8069840895, 16659775487, 34359738367, 68719476735, 137438953471]
theorem bR.MV : aEr .any (opsOf Tryz.f14 5) = bR.T5 := by kernel_rfl
theorem bR.xI : aBu bR.T5.2 bR.B5 = true := by kernel_rfl
theorem bR.calls (k : Nat) (A0 : Option Addr) (c0 : Nat) (l0 : List S68) (A1 : Option Addr) (c1 : Nat) (l1 : List S83) (r : Bool) (w : World) (hr0 : Kd.C BC w A0 l0.length l0) (hc0 : l0.length ≤ c0) (hr1 : Kd.C X8 w A1 l1.length l1) (hc1 : l1.length ≤ c1) (h : bR.f k l0 l1 = some r) :
  Calls Tryz.prog 14 #[.slice A0 l0.length c0, .slice A1 l1.length c1] w fun e w' => e = .returned (.bool r) ∧ Below w.heap.size w w' := by
 obtain ⟨NT, MW⟩ := cFN
 have jY := am_ hr0
 have oQ := am_ hc0
 clear hr0 hc0
 have HR1 := am_ hr1
 have MZ := am_ hc1
 clear hr1 hc1
 have HB := am_ (Below.refl w.heap.size w)
 have H : (bR.l0 k l0 l1 0) = some r := h
 clear h
 have H' := am_ H
 clear H
 go_enter Tryz.func14, Tryz.ntmps14
 go_wp2
 go_loopg [5] k (fun kq v5 w' => ∃ (aC : Int), v5 = .int .i64 aC ∧ Aside0 (bR.l0 kq l0 l1 aC = some r) ∧ Aside0 (kq ≤ k) ∧ Aside0 (Below w.heap.size w w'))
 case atStart => exact ⟨(0), rs_, H', ⟨Nat.le_refl _⟩, ⟨bb_⟩⟩
 case round =>
  clear H'; (try clear c1); (try clear p2); obtain ⟨aC, rfl, HA, jK, HB⟩ := hrel
  cases gk with
  | zero => exact absurd HA.out (by simp [bR.l0])
  | succ k1 =>
   have H := HA.out; clear HA; simp only [bR.l0] at H
   by_cases c3 : aC < (l1.length : Int)
   ·rw [if_pos c3] at H
    have fC := decide_eq_true c3; clear c3
    by_cases c4 : 0 ≤ aC
    ·rw [if_pos c4] at H
     have iB := decide_eq_true c4; clear c4; replace H := aBp H; obtain ⟨⟨b90, aJT, d25⟩, U9, H⟩ := H
     try dsimp only at H
     have A5 := am_ U9; clear U9; replace H := aBp H; obtain ⟨bU9, D6, H⟩ := H
     try dsimp only at H
     have A6 := am_ D6; clear D6; have gY := am_ H; clear H; (have bZ0 : 0 ≤ (aC : Int) := oa_); (have bVR : aC < (l1.length : Int) := oa_); obtain ⟨aPI, d2Q, d6K, cUZ, d1Z, cTB, cR3, d0N, cP9, d3P, aVO, aPB, aNG, aNT, aNA, aV7, aVK, aKM, aXA, aMV, aC1, aEE, aI5, aGU, aG6, aW6, aOV, aEX, aDL, aCY, aCQ, aFM, aFG⟩ := IM HR1.out aC bZ0 bVR; cases d3P; obtain ⟨aVO, aPB, aNG, aNT, aNA, aV7, aVK, aKM, aXA, aMV, aC1, aEE, aI5, aGU, aG6⟩ := aKe HB aVO aPB aNG aNT aNA aV7 aVK aKM aXA aMV aC1 aEE aI5 aGU aG6; have cV4 := am_ aOV; have cWW := am_ aW6; clear aOV aW6; have cFD := am_ aDL; have c7T := am_ aEX; clear aDL aEX; have cGY := am_ aCQ; have cFE := am_ aCY; clear aCQ aCY; have c5B := am_ aFG; have cLP := am_ aFM; clear aFG aFM; replace bZ0 := eq_true bZ0; replace bVR := eq_true bVR
     try go_wp2_with (first | ((with_reducible refine aAa (f := 33) rfl ?_); refine aBh (some 21) Tryz.func33 #[.slice A0 l0.length c0, .string ((aAl l1 aC).f0)] ?_; (with_reducible refine (gL.calls _ (fun k_ => k_ < w.heap.size) _ _ _ _ _ _ _ _ (Kd.aSp oQ.out (Kd.aEo (Kd.C_F AB jY.out) bb_)) A5.out).mono ?_); rintro e w9 ⟨dE4, rfl, ho0, hb⟩; refine ⟨_, rfl, ?_⟩; have tN := am_ (Kd.aGo (Kd.aEa (ok' := fun k_ => True) ho0 (fun k_ hk_ => trivial)) (aAj bb_)); replace HB := bs_ hb; clear hb ho0) | ((with_reducible refine aAc (N := 6) rfl ?_); (try (refine aAn (by rfl) ?_; dsimp only)); refine bx_ 6 #[.int .i64 0, .slice none 0 0] 66 ?_; intro H6 hg w10 hbox hb; have wW := am_ (hbox); have cGN := gw_ hg; replace tN := am_ (Kd.aDq (Kd.aEz (v3_ tN.out) H6 (Nat.le_of_eq hg.symm)) hb); replace HB := bs_ hb; clear hb hbox hg; obtain ⟨CX, DR, BV, D5⟩ := b2_ wW; obtain ⟨qZ, qN, H9⟩ := Kd.aGw tN.out; subst H9))
     (have n0_ : Aside0 (Kd.V jU 126 ((w10.setCell ⟨H6, 0, none⟩ (.int .i64 b90)).setCell ⟨H6, 1, none⟩ (.slice qZ aJT.length qN)) w.heap.size (fun k_ => k_ ≠ H6) (.slice qZ aJT.length qN) aJT) := ⟨by (with_reducible repeat (first | apply Kd.aHq | apply Kd.aHr | apply Kd.aHx)); exact Kd.aEa (aYs (Kd.aEa tN.out (fun k_ hk => (⟨hk, hk.2⟩ : _ ∧ k_ ≠ H6))) (fun _ hk => hk.2)) (fun _ hk => hk.1.2)⟩); have n1_ : Aside0 (((w10.setCell ⟨H6, 0, none⟩ (.int .i64 b90)).setCell ⟨H6, 1, none⟩ (.slice qZ aJT.length qN)).heap[H6]? = some (.cells #[.int .i64 b90, .slice qZ aJT.length qN] 66 (0, 0))) := ⟨(aWo (aBx wW.out))⟩; have pO : Aside0 (Below w.heap.size w ((w10.setCell ⟨H6, 0, none⟩ (.int .i64 b90)).setCell ⟨H6, 1, none⟩ (.slice qZ aJT.length qN))) := ⟨bb_⟩; (try clear tN); (try clear wW); (try clear HB); generalize ((w10.setCell ⟨H6, 0, none⟩ (.int .i64 b90)).setCell ⟨H6, 1, none⟩ (.slice qZ aJT.length qN)) = ZO at n0_ n1_ pO ⊢; have tN := n0_; have wW := n1_; have HB := pO; clear n0_ n1_ pO; replace tN := am_ (Kd.aHx tN.out); replace wW := am_ (aAz wW.out); replace HB := am_ (aAm HB.out); (have bUO : 0 ≤ (aC : Int) := oa_); (have c1V : aC < (l1.length : Int) := oa_); obtain ⟨cAS, aJQ, aJE, a8T, a2E, a4N, a7Y, cQR, cRX, d37, nS, o8, nR, o9, o6, nT, o7, oC, nX, oD, mH, lY, lU, lX, mF, aXF, aX5, aDP, aFI, aGR, aHZ, aGP, aCG⟩ := IM HR1.out aC bUO c1V; obtain rfl : aPI = cAS := (by injection d37); obtain ⟨QC, SF, SG, PD, RP, RQ, O1, QS, OT, KP, ET, J9, EH, JY, EU⟩ := aKe HB nS o8 nR o9 o6 nT o7 oC nX oD mH lY lU lX mF; have QA := am_ aX5; have cOZ := am_ aXF; clear aX5 aXF; have JZ := am_ aFI; have cDG := am_ aDP; clear aFI aDP; have JF := am_ aHZ; have cJ6 := am_ aGR; clear aHZ aGR; have JV := am_ aCG; have cJI := am_ aGP; clear aCG aGP; replace bUO := eq_true bUO; replace c1V := eq_true c1V; have H := gY.out; clear gY
     by_cases c7 : bU9 = true
     ·subst c7
      rw [if_pos rfl] at H
      by_cases c8 : d25 = true
      ·subst c8
       rw [if_pos rfl] at H; obtain rfl := Option.some.inj H; (refine st_ 38 (hc_ ((hb_ HB nS)) (hc_ ((hb_ HB o8)) (hc_ ((hb_ HB nR)) (hc_ ((hb_ HB o9)) (hc_ ((hb_ HB o6)) (hc_ ((hb_ HB nT)) (hc_ ((hb_ HB o7)) (hc_ ((hb_ HB oC)) (hc_ ((hb_ HB nX)) (hc_ ((hb_ HB oD)) (hc_ ((hb_ HB mH)) (hc_ ((hb_ HB lY)) (hc_ ((hb_ HB lU)) (hc_ ((hb_ HB lX)) (hf_ ((hb_ HB mF))))))))))))))))) (fun hHeld => ?_); refine aAv bR.MV bR.xI (fun HT_ HW_ => ?_)); generalize ZO.drew = w14 at tN wW HB JZ JF JV QA QC SF ET J9 EH JY EU SG PD RP RQ O1 QS OT KP hHeld ⊢
       iterate 4 (refine pl_ ?_)
       refine tl_ ?_; refine aCm (i := 5) (N := some 29) (tf 6 32) (h := fun K hK => ?_); refine gs_ Tryz.func34 #[.string ((aAl l1 aC).f0)] ?_; (with_reducible refine (eB.calls _ _ _ _ A6.out).mono ?_); rintro e w' ⟨rfl, ⟨nd, rfl⟩⟩; refine ⟨_, rfl, ?_⟩; refine hK.out _ _ (hc_ (hb_ HB nS) (hc_ (hb_ HB o8) (hc_ (hb_ HB nR) (hc_ (hb_ HB o9) (hc_ (hb_ HB o6) (hc_ (hb_ HB nT) (hc_ (hb_ HB o7) (hc_ (hb_ HB oC) (hc_ (hb_ HB nX) (hc_ (hb_ HB oD) (hc_ (hb_ HB mH) (hc_ (hb_ HB lY) (hc_ (hb_ HB lU) (hc_ (hb_ HB lX) (hf_ (hb_ HB mF)))))))))))))))) (fun hHeld => ?_); clear hK K; refine nm_ ?_; refine aBa 6 (tf 7 31) ?_
       iterate 4 (refine pl_ ?_)
       iterate 8 (refine pd_ ?_)
       iterate 2 (refine pl_ ?_)
       iterate 16 (refine pd_ ?_)
       refine pl_ ?_; refine dn_ ?_
       try go_wp2
       go_ret
       exact ⟨er_, bb_⟩
      ·replace c8 := Bool.eq_false_iff.mpr c8
       subst c8; replace H := aZf H; replace H := aBp H; obtain ⟨bXY, a00, H⟩ := H
       try dsimp only at H
       have A15 := am_ a00; clear a00; have gY := am_ H; clear H; (have bT1 : 0 ≤ (aC : Int) := oa_); (have bZE : aC < (l1.length : Int) := oa_); obtain ⟨cC4, d49, d65, cRY, d08, cVW, cU1, cWN, cN7, d63, vR, vK, vL, wD, wI, vD, wE, wK, vF, wJ, qV, qW, qY, qK, qM, aLS, aXK, aH5, aFE, aGY, aG8, aI1, aCI⟩ := IM HR1.out aC bT1 bZE; obtain rfl : aPI = cC4 := (by injection d63); obtain ⟨a3L, a81, a7I, a4L, a2Q, a8G, a8D, a3R, a97, WG, PE, YP, OG, YQ, QM⟩ := aKe HB vR vK vL wD wI vD wE wK vF wJ qV qW qY qK qM; have MB := am_ aXK; have a5F := am_ aLS; clear aXK aLS; have EC := am_ aFE; have XL := am_ aH5; clear aFE aH5; have EN := am_ aG8; have XM := am_ aGY; clear aG8 aGY; have YK := am_ aCI; have c4W := am_ aI1; clear aCI aI1; replace bT1 := eq_true bT1; replace bZE := eq_true bZE; have rW := Option.some.inj (KP.symm.trans WG); injection rW with rW SI TD; subst rW; subst TD; clear SI; have rW := Option.some.inj (ET.symm.trans PE); injection rW with rW SI TD; subst rW; subst TD; clear SI; have rW := Option.some.inj (EH.symm.trans OG); injection rW with rW SI TD; subst rW; subst TD; clear SI; have rW := Option.some.inj (EU.symm.trans QM); injection rW with rW SI TD; subst rW; subst TD; clear SI; have H := gY.out; clear gY
       by_cases c16 : bXY < 0
       ·rw [if_pos c16] at H
        have GY := decide_eq_true c16; clear c16; obtain rfl := Option.some.inj H; (refine st_ 38 (hc_ ((hb_ HB nS)) (hc_ ((hb_ HB o8)) (hc_ ((hb_ HB nR)) (hc_ ((hb_ HB o9)) (hc_ ((hb_ HB o6)) (hc_ ((hb_ HB nT)) (hc_ ((hb_ HB o7)) (hc_ ((hb_ HB oC)) (hc_ ((hb_ HB nX)) (hc_ ((hb_ HB oD)) (hc_ ((hb_ HB mH)) (hc_ ((hb_ HB lY)) (hc_ ((hb_ HB lU)) (hc_ ((hb_ HB lX)) (hc_ ((hb_ HB mF)) (hc_ ((hb_ HB vR)) (hc_ ((hb_ HB vK)) (hc_ ((hb_ HB vL)) (hc_ ((hb_ HB wD)) (hc_ ((hb_ HB wI)) (hc_ ((hb_ HB vD)) (hc_ ((hb_ HB wE)) (hc_ ((hb_ HB wK)) (hc_ ((hb_ HB vF)) (hc_ ((hb_ HB wJ)) (hc_ ((hb_ HB qV)) (hc_ ((hb_ HB qW)) (hc_ ((hb_ HB qY)) (hc_ ((hb_ HB qK)) (hf_ ((hb_ HB qM)))))))))))))))))))))))))))))))) (fun hHeld => ?_); refine aAv bR.MV bR.xI (fun HT_ HW_ => ?_))
        generalize ZO.drew = w22 at tN wW HB JZ JF JV QA EC EN YK MB QC SF ET J9 EH JY EU SG PD RP RQ O1 QS OT KP a3L a81 PE YP OG YQ QM a7I a4L a2Q a8G a8D a3R a97 WG hHeld ⊢
        iterate 4 (refine pl_ ?_)
        refine tl_ ?_; refine aCm (i := 5) (N := some 29) (tf 6 32) (h := fun K hK => ?_); refine gs_ Tryz.func34 #[.string ((aAl l1 aC).f0)] ?_; (with_reducible refine (eB.calls _ _ _ _ A6.out).mono ?_); rintro e w' ⟨rfl, ⟨nd, rfl⟩⟩; refine ⟨_, rfl, ?_⟩; refine hK.out _ _ (hc_ (hb_ HB nS) (hc_ (hb_ HB o8) (hc_ (hb_ HB nR) (hc_ (hb_ HB o9) (hc_ (hb_ HB o6) (hc_ (hb_ HB nT) (hc_ (hb_ HB o7) (hc_ (hb_ HB oC) (hc_ (hb_ HB nX) (hc_ (hb_ HB oD) (hc_ (hb_ HB mH) (hc_ (hb_ HB lY) (hc_ (hb_ HB lU) (hc_ (hb_ HB lX) (hc_ (hb_ HB mF) (hc_ (hb_ HB vR) (hc_ (hb_ HB vK) (hc_ (hb_ HB vL) (hc_ (hb_ HB wD) (hc_ (hb_ HB wI) (hc_ (hb_ HB vD) (hc_ (hb_ HB wE) (hc_ (hb_ HB wK) (hc_ (hb_ HB vF) (hc_ (hb_ HB wJ) (hc_ (hb_ HB qV) (hc_ (hb_ HB qW) (hc_ (hb_ HB qY) (hc_ (hb_ HB qK) (hf_ (hb_ HB qM))))))))))))))))))))))))))))))) (fun hHeld => ?_); clear hK K; refine nm_ ?_; refine aBa 6 (tf 7 31) ?_
        iterate 9 (refine pl_ ?_)
        refine tl_ ?_; refine aCm (i := 17) (N := some 41) (tf 18 20) (h := fun K hK => ?_); refine gs_ Tryz.func7 #[.slice A0 l0.length c0, .agg #[.int .i64 ((aAl l1 aC).f1.f0), .string ((aAl l1 aC).f1.f1), .int .i64 ((aAl l1 aC).f1.f2.f0), .int .i64 ((aAl l1 aC).f1.f2.f1), .int .i64 ((aAl l1 aC).f1.f2.f2.f0), .int .i64 ((aAl l1 aC).f1.f2.f2.f1), .string ((aAl l1 aC).f1.f2.f2.f2), .string ((aAl l1 aC).f1.f2.f3), .slice aJQ ((aAl l1 aC).f1.f2.f4).length aJE, .slice a8T ((aAl l1 aC).f1.f3).length a2E, .int .i64 ((aAl l1 aC).f1.f4), .slice a4N ((aAl l1 aC).f1.f5).length a7Y]] ?_; (with_reducible refine (rT.calls _ _ _ _ _ _ _ _ _ _ _ _ _ _ _ _ _ _ _ _ _ _ _ _ (ck_ (Kd.aAp jY.out bb_)) oQ.out (ck_ (Kd.aAp MB.out bb_)) a5F.out (ck_ (Kd.aAp EC.out bb_)) XL.out (ck_ (Kd.aAp EN.out bb_)) XM.out A15.out).mono ?_); rintro e w23 ⟨rfl, hb⟩; refine ⟨_, rfl, ?_⟩; replace tN := am_ (Kd.aDq (v3_ tN.out) hb); replace wW := aAt wW hb; replace HB := bs_ hb; (try clear hb); refine hK.out _ _ (hc_ (hb_ HB nS) (hc_ (hb_ HB o8) (hc_ (hb_ HB nR) (hc_ (hb_ HB o9) (hc_ (hb_ HB o6) (hc_ (hb_ HB nT) (hc_ (hb_ HB o7) (hc_ (hb_ HB oC) (hc_ (hb_ HB nX) (hc_ (hb_ HB oD) (hc_ (hb_ HB mH) (hc_ (hb_ HB lY) (hc_ (hb_ HB lU) (hc_ (hb_ HB lX) (hc_ (hb_ HB mF) (hc_ (hb_ HB vR) (hc_ (hb_ HB vK) (hc_ (hb_ HB vL) (hc_ (hb_ HB wD) (hc_ (hb_ HB wI) (hc_ (hb_ HB vD) (hc_ (hb_ HB wE) (hc_ (hb_ HB wK) (hc_ (hb_ HB vF) (hc_ (hb_ HB wJ) (hc_ (hb_ HB qV) (hc_ (hb_ HB qW) (hc_ (hb_ HB qY) (hc_ (hb_ HB qK) (hf_ (hb_ HB qM))))))))))))))))))))))))))))))) (fun hHeld => ?_); clear hK K; refine nm_ ?_; refine aBa 18 (tf 19 19) ?_
        iterate 2 (refine pl_ ?_)
        iterate 16 (refine pd_ ?_)
        refine pl_ ?_; refine dn_ ?_
        try go_wp2
        go_ret
        exact ⟨er_, bb_⟩
       ·rw [if_neg c16] at H
        have GY := decide_eq_false c16; clear c16
        by_cases c24 : aC > 0
        ·rw [if_pos c24] at H
         have bAQ := decide_eq_true c24; clear c24; obtain ⟨yZ, zF⟩ : ∃ j_ : Int, (wrap64 (aC - 1)) = j_ := ⟨_, rfl⟩; (replace H : (if 0 ≤ (yZ) then (if (yZ) < (l1.length : Int) then (if ((Op.bytesLess (((aAl l1 (yZ)).f0).toList) (((aAl l1 aC).f0).toList)) = true) then (bR.l0 k1 l0 l1 (wrap64 (aC + 1))) else (some false)) else (none)) else (none)) = some r := by first | (rw [zF] at H; exact H) | (simp only [zF] at H ⊢; exact H)); (try rw [zF] at A5); (try rw [zF] at A6); (try rw [zF] at A15); have bVP : (IntKind.i64.wrap (aC - 1)) = yZ := (aCj _).trans zF
         by_cases c26 : 0 ≤ (yZ)
         ·rw [if_pos c26] at H
          have bQE := decide_eq_true c26; clear c26
          by_cases fV : (yZ) < (l1.length : Int)
          ·rw [if_pos fV] at H
           have bAP := decide_eq_true fV; clear fV; have gY := am_ H; clear H; (have bZR : 0 ≤ (aC : Int) := oa_); (have bWP : aC < (l1.length : Int) := oa_); obtain ⟨cDE, d6Y, d5N, cWC, cRA, cXV, cPL, cPY, cXJ, d3H, WM, WN, XB, WI, VN, WQ, WY, X9, VQ, VC, RN, QH, PI, Q6, NV, aMF, aMQ, aHT, aED, aG0, aCE, aE4, aC7⟩ := IM HR1.out aC bZR bWP; obtain rfl : aPI = cDE := (by injection d3H); obtain ⟨bFN, bLM, bCW, bIC, bF7, bDO, bJU, bD2, bEC, bB3, b9B, b5I, b84, b1M, bAA⟩ := aKe HB WM WN XB WI VN WQ WY X9 VQ VC RN QH PI Q6 NV; have bJV := am_ aMQ; have cSA := am_ aMF; clear aMQ aMF; have b3O := am_ aED; have c6C := am_ aHT; clear aED aHT; have b26 := am_ aCE; have cHE := am_ aG0; clear aCE aG0; have b7E := am_ aC7; have cG7 := am_ aE4; clear aC7 aE4; replace bZR := eq_true bZR; replace bWP := eq_true bWP; (have c09 : 0 ≤ ((yZ) : Int) := oa_); (have c0W : (yZ) < (l1.length : Int) := oa_); obtain ⟨cK8, d33, d5C, cUK, cO8, d0X, cRS, cYJ, d0Y, d3C, WH, VE, X7, VT, WU, WR, VL, UM, XA, V9, R5, RL, SB, QT, P8, aM8, aV5, aD6, aDY, aE9, aDO, aID, aGE⟩ := IM HR1.out (yZ) c09 c0W; obtain rfl : aPI = cK8 := (by injection d3C); obtain ⟨bMQ, bGO, bHF, bK0, bEB, bNQ, bK5, bD9, bN1, bNR, b1B, b4W, b3U, b9S, b3V⟩ := aKe HB WH VE X7 VT WU WR VL UM XA V9 R5 RL SB QT P8; have bFH := am_ aV5; have cWH := am_ aM8; clear aV5 aM8; have b1W := am_ aDY; have cMK := am_ aD6; clear aDY aD6; have bA5 := am_ aDO; have cBQ := am_ aE9; clear aDO aE9; have bAJ := am_ aGE; have c58 := am_ aID
           clear aGE aID; replace c09 := eq_true c09; replace c0W := eq_true c0W; (refine st_ 38 (hc_ ((hb_ HB nS)) (hc_ ((hb_ HB o8)) (hc_ ((hb_ HB nR)) (hc_ ((hb_ HB o9)) (hc_ ((hb_ HB o6)) (hc_ ((hb_ HB nT)) (hc_ ((hb_ HB o7)) (hc_ ((hb_ HB oC)) (hc_ ((hb_ HB nX)) (hc_ ((hb_ HB oD)) (hc_ ((hb_ HB mH)) (hc_ ((hb_ HB lY)) (hc_ ((hb_ HB lU)) (hc_ ((hb_ HB lX)) (hc_ ((hb_ HB mF)) (hc_ ((hb_ HB vR)) (hc_ ((hb_ HB vK)) (hc_ ((hb_ HB vL)) (hc_ ((hb_ HB wD)) (hc_ ((hb_ HB wI)) (hc_ ((hb_ HB vD)) (hc_ ((hb_ HB wE)) (hc_ ((hb_ HB wK)) (hc_ ((hb_ HB vF)) (hc_ ((hb_ HB wJ)) (hc_ ((hb_ HB qV)) (hc_ ((hb_ HB qW)) (hc_ ((hb_ HB qY)) (hc_ ((hb_ HB qK)) (hc_ ((hb_ HB qM)) (hc_ ((hb_ HB WM)) (hc_ ((hb_ HB WN)) (hc_ ((hb_ HB XB)) (hc_ ((hb_ HB WI)) (hc_ ((hb_ HB VN)) (hc_ ((hb_ HB WQ)) (hc_ ((hb_ HB WY)) (hc_ ((hb_ HB X9)) (hc_ ((hb_ HB VQ)) (hc_ ((hb_ HB VC)) (hc_ ((hb_ HB RN)) (hc_ ((hb_ HB QH)) (hc_ ((hb_ HB PI)) (hc_ ((hb_ HB Q6)) (hc_ ((hb_ HB NV)) (hc_ ((hb_ HB WH)) (hc_ ((hb_ HB VE)) (hc_ ((hb_ HB X7)) (hc_ ((hb_ HB VT)) (hc_ ((hb_ HB WU)) (hc_ ((hb_ HB WR)) (hc_ ((hb_ HB VL)) (hc_ ((hb_ HB UM)) (hc_ ((hb_ HB XA)) (hc_ ((hb_ HB V9)) (hc_ ((hb_ HB R5)) (hc_ ((hb_ HB RL)) (hc_ ((hb_ HB SB)) (hc_ ((hb_ HB QT)) (hf_ ((hb_ HB P8)))))))))))))))))))))))))))))))))))))))))))))))))))))))))))))) (fun hHeld => ?_); refine aAv bR.MV bR.xI (fun HT_ HW_ => ?_))
           generalize ZO.drew = w34 at tN wW HB JZ JF JV QA EC EN YK MB b3O b26 b7E bJV b1W bA5 bAJ bFH QC SF ET J9 EH JY EU SG PD RP RQ O1 QS OT KP a3L a81 PE YP OG YQ QM a7I a4L a2Q a8G a8D a3R a97 WG bFN bLM b9B b5I b84 b1M bAA bCW bIC bF7 bDO bJU bD2 bEC bB3 bMQ bGO b1B b4W b3U b9S b3V bHF bK0 bEB bNQ bK5 bD9 bN1 bNR hHeld ⊢
           iterate 4 (refine pl_ ?_)
           refine tl_ ?_; refine aCm (i := 5) (N := some 29) (tf 6 32) (h := fun K hK => ?_); refine gs_ Tryz.func34 #[.string ((aAl l1 aC).f0)] ?_; (with_reducible refine (eB.calls _ _ _ _ A6.out).mono ?_); rintro e w' ⟨rfl, ⟨nd, rfl⟩⟩; refine ⟨_, rfl, ?_⟩; refine hK.out _ _ (hc_ (hb_ HB nS) (hc_ (hb_ HB o8) (hc_ (hb_ HB nR) (hc_ (hb_ HB o9) (hc_ (hb_ HB o6) (hc_ (hb_ HB nT) (hc_ (hb_ HB o7) (hc_ (hb_ HB oC) (hc_ (hb_ HB nX) (hc_ (hb_ HB oD) (hc_ (hb_ HB mH) (hc_ (hb_ HB lY) (hc_ (hb_ HB lU) (hc_ (hb_ HB lX) (hc_ (hb_ HB mF) (hc_ (hb_ HB vR) (hc_ (hb_ HB vK) (hc_ (hb_ HB vL) (hc_ (hb_ HB wD) (hc_ (hb_ HB wI) (hc_ (hb_ HB vD) (hc_ (hb_ HB wE) (hc_ (hb_ HB wK) (hc_ (hb_ HB vF) (hc_ (hb_ HB wJ) (hc_ (hb_ HB qV) (hc_ (hb_ HB qW) (hc_ (hb_ HB qY) (hc_ (hb_ HB qK) (hc_ (hb_ HB qM) (hc_ (hb_ HB WM) (hc_ (hb_ HB WN) (hc_ (hb_ HB XB) (hc_ (hb_ HB WI) (hc_ (hb_ HB VN) (hc_ (hb_ HB WQ) (hc_ (hb_ HB WY) (hc_ (hb_ HB X9) (hc_ (hb_ HB VQ) (hc_ (hb_ HB VC) (hc_ (hb_ HB RN) (hc_ (hb_ HB QH) (hc_ (hb_ HB PI) (hc_ (hb_ HB Q6) (hc_ (hb_ HB NV) (hc_ (hb_ HB WH) (hc_ (hb_ HB VE) (hc_ (hb_ HB X7) (hc_ (hb_ HB VT) (hc_ (hb_ HB WU) (hc_ (hb_ HB WR) (hc_ (hb_ HB VL) (hc_ (hb_ HB UM) (hc_ (hb_ HB XA) (hc_ (hb_ HB V9) (hc_ (hb_ HB R5) (hc_ (hb_ HB RL) (hc_ (hb_ HB SB) (hc_ (hb_ HB QT) (hf_ (hb_ HB P8))))))))))))))))))))))))))))))))))))))))))))))))))))))))))))) (fun hHeld => ?_); clear hK K; refine nm_ ?_; refine aBa 6 (tf 7 31) ?_
           iterate 9 (refine pl_ ?_)
           refine tl_ ?_; refine aCm (i := 17) (N := some 41) (tf 18 20) (h := fun K hK => ?_); refine gs_ Tryz.func7 #[.slice A0 l0.length c0, .agg #[.int .i64 ((aAl l1 aC).f1.f0), .string ((aAl l1 aC).f1.f1), .int .i64 ((aAl l1 aC).f1.f2.f0), .int .i64 ((aAl l1 aC).f1.f2.f1), .int .i64 ((aAl l1 aC).f1.f2.f2.f0), .int .i64 ((aAl l1 aC).f1.f2.f2.f1), .string ((aAl l1 aC).f1.f2.f2.f2), .string ((aAl l1 aC).f1.f2.f3), .slice aJQ ((aAl l1 aC).f1.f2.f4).length aJE, .slice a8T ((aAl l1 aC).f1.f3).length a2E, .int .i64 ((aAl l1 aC).f1.f4), .slice a4N ((aAl l1 aC).f1.f5).length a7Y]] ?_; (with_reducible refine (rT.calls _ _ _ _ _ _ _ _ _ _ _ _ _ _ _ _ _ _ _ _ _ _ _ _ (ck_ (Kd.aAp jY.out bb_)) oQ.out (ck_ (Kd.aAp MB.out bb_)) a5F.out (ck_ (Kd.aAp EC.out bb_)) XL.out (ck_ (Kd.aAp EN.out bb_)) XM.out A15.out).mono ?_); rintro e w35 ⟨rfl, hb⟩; refine ⟨_, rfl, ?_⟩; replace tN := am_ (Kd.aDq (v3_ tN.out) hb); replace wW := aAt wW hb; replace HB := bs_ hb; (try clear hb); refine hK.out _ _ (hc_ (hb_ HB nS) (hc_ (hb_ HB o8) (hc_ (hb_ HB nR) (hc_ (hb_ HB o9) (hc_ (hb_ HB o6) (hc_ (hb_ HB nT) (hc_ (hb_ HB o7) (hc_ (hb_ HB oC) (hc_ (hb_ HB nX) (hc_ (hb_ HB oD) (hc_ (hb_ HB mH) (hc_ (hb_ HB lY) (hc_ (hb_ HB lU) (hc_ (hb_ HB lX) (hc_ (hb_ HB mF) (hc_ (hb_ HB vR) (hc_ (hb_ HB vK) (hc_ (hb_ HB vL) (hc_ (hb_ HB wD) (hc_ (hb_ HB wI) (hc_ (hb_ HB vD) (hc_ (hb_ HB wE) (hc_ (hb_ HB wK) (hc_ (hb_ HB vF) (hc_ (hb_ HB wJ) (hc_ (hb_ HB qV) (hc_ (hb_ HB qW) (hc_ (hb_ HB qY) (hc_ (hb_ HB qK) (hc_ (hb_ HB qM) (hc_ (hb_ HB WM) (hc_ (hb_ HB WN) (hc_ (hb_ HB XB) (hc_ (hb_ HB WI) (hc_ (hb_ HB VN) (hc_ (hb_ HB WQ) (hc_ (hb_ HB WY) (hc_ (hb_ HB X9) (hc_ (hb_ HB VQ) (hc_ (hb_ HB VC) (hc_ (hb_ HB RN) (hc_ (hb_ HB QH) (hc_ (hb_ HB PI) (hc_ (hb_ HB Q6) (hc_ (hb_ HB NV) (hc_ (hb_ HB WH) (hc_ (hb_ HB VE) (hc_ (hb_ HB X7) (hc_ (hb_ HB VT) (hc_ (hb_ HB WU) (hc_ (hb_ HB WR) (hc_ (hb_ HB VL) (hc_ (hb_ HB UM) (hc_ (hb_ HB XA) (hc_ (hb_ HB V9) (hc_ (hb_ HB R5) (hc_ (hb_ HB RL) (hc_ (hb_ HB SB) (hc_ (hb_ HB QT) (hf_ (hb_ HB P8))))))))))))))))))))))))))))))))))))))))))))))))))))))))))))) (fun hHeld => ?_); clear hK K; refine nm_ ?_; have H := gY.out; clear gY
           by_cases c28 : ((Op.bytesLess (((aAl l1 (yZ)).f0).toList) (((aAl l1 aC).f0).toList)) = true)
           ·rw [if_pos c28] at H
            have YS : (Op.bytesLess (((aAl l1 (yZ)).f0).toList) (((aAl l1 aC).f0).toList)) = true := c28; clear c28; have H' := am_ H; clear H; refine aBa 18 (tf 19 19) ?_
            iterate 9 (refine pl_ ?_)
            refine aBa 29 (bm 38 805306367) ?_; refine aBa 30 (bm 38 1879048191) ?_; refine aBa 31 (bm 38 4026531839) ?_; refine aBa 32 (bm 38 8321499135) ?_; refine aBa 33 (bm 38 16911433727) ?_; refine aCx 28 (tf 34 4) ?_; refine tl_ ?_
            iterate 3 (refine pl_ ?_)
            refine dn_ ?_
            try go_wp2
            go_roundg k1
            case measure => have := jK.out; omega
            case rel => exact ⟨(wrap64 (aC + 1)), rs_, H', ⟨by have := jK.out; omega⟩, ⟨bb_⟩⟩
           ·rw [if_neg c28] at H
            (have YS : (Op.bytesLess (((aAl l1 (yZ)).f0).toList) (((aAl l1 aC).f0).toList)) = false := by simpa using c28); clear c28; obtain rfl := Option.some.inj H; refine aBa 18 (tf 19 19) ?_
            iterate 9 (refine pl_ ?_)
            refine aBa 29 (bm 38 805306367) ?_; refine aBa 30 (bm 38 1879048191) ?_; refine aBa 31 (bm 38 4026531839) ?_; refine aBa 32 (bm 38 8321499135) ?_; refine aBa 33 (bm 38 16911433727) ?_; refine aCx 28 (tf 34 4) ?_; refine tl_ ?_
            iterate 3 (refine pl_ ?_)
            refine dn_ ?_
            try go_wp2
            go_ret
            (exact ⟨by first | rfl | (simp [aBo, aBq] <;> rfl) | (simp only [← zF]; first | rfl | (simp [aBo, aBq] <;> rfl)) | (simp [*, aBo, aBq] <;> rfl), by repeat (first | (with_reducible first | exact HB.out | apply aAi | apply aAo | apply aAm | refine aAk ?_ cGN.out) | exact HB.out)⟩)
          ·rw [if_neg fV] at H
           exact nn_ H
         ·rw [if_neg c26] at H
          exact nn_ H
        ·rw [if_neg c24] at H
         have bAQ := decide_eq_false c24; clear c24; have H' := am_ H; clear H; (refine st_ 38 (hc_ ((hb_ HB nS)) (hc_ ((hb_ HB o8)) (hc_ ((hb_ HB nR)) (hc_ ((hb_ HB o9)) (hc_ ((hb_ HB o6)) (hc_ ((hb_ HB nT)) (hc_ ((hb_ HB o7)) (hc_ ((hb_ HB oC)) (hc_ ((hb_ HB nX)) (hc_ ((hb_ HB oD)) (hc_ ((hb_ HB mH)) (hc_ ((hb_ HB lY)) (hc_ ((hb_ HB lU)) (hc_ ((hb_ HB lX)) (hc_ ((hb_ HB mF)) (hc_ ((hb_ HB vR)) (hc_ ((hb_ HB vK)) (hc_ ((hb_ HB vL)) (hc_ ((hb_ HB wD)) (hc_ ((hb_ HB wI)) (hc_ ((hb_ HB vD)) (hc_ ((hb_ HB wE)) (hc_ ((hb_ HB wK)) (hc_ ((hb_ HB vF)) (hc_ ((hb_ HB wJ)) (hc_ ((hb_ HB qV)) (hc_ ((hb_ HB qW)) (hc_ ((hb_ HB qY)) (hc_ ((hb_ HB qK)) (hf_ ((hb_ HB qM)))))))))))))))))))))))))))))))) (fun hHeld => ?_); refine aAv bR.MV bR.xI (fun HT_ HW_ => ?_))
         generalize ZO.drew = w48 at tN wW HB JZ JF JV QA EC EN YK MB QC SF ET J9 EH JY EU SG PD RP RQ O1 QS OT KP a3L a81 PE YP OG YQ QM a7I a4L a2Q a8G a8D a3R a97 WG hHeld ⊢
         iterate 4 (refine pl_ ?_)
         refine tl_ ?_; refine aCm (i := 5) (N := some 29) (tf 6 32) (h := fun K hK => ?_); refine gs_ Tryz.func34 #[.string ((aAl l1 aC).f0)] ?_; (with_reducible refine (eB.calls _ _ _ _ A6.out).mono ?_); rintro e w' ⟨rfl, ⟨nd, rfl⟩⟩; refine ⟨_, rfl, ?_⟩; refine hK.out _ _ (hc_ (hb_ HB nS) (hc_ (hb_ HB o8) (hc_ (hb_ HB nR) (hc_ (hb_ HB o9) (hc_ (hb_ HB o6) (hc_ (hb_ HB nT) (hc_ (hb_ HB o7) (hc_ (hb_ HB oC) (hc_ (hb_ HB nX) (hc_ (hb_ HB oD) (hc_ (hb_ HB mH) (hc_ (hb_ HB lY) (hc_ (hb_ HB lU) (hc_ (hb_ HB lX) (hc_ (hb_ HB mF) (hc_ (hb_ HB vR) (hc_ (hb_ HB vK) (hc_ (hb_ HB vL) (hc_ (hb_ HB wD) (hc_ (hb_ HB wI) (hc_ (hb_ HB vD) (hc_ (hb_ HB wE) (hc_ (hb_ HB wK) (hc_ (hb_ HB vF) (hc_ (hb_ HB wJ) (hc_ (hb_ HB qV) (hc_ (hb_ HB qW) (hc_ (hb_ HB qY) (hc_ (hb_ HB qK) (hf_ (hb_ HB qM))))))))))))))))))))))))))))))) (fun hHeld => ?_); clear hK K; refine nm_ ?_; refine aBa 6 (tf 7 31) ?_
         iterate 9 (refine pl_ ?_)
         refine tl_ ?_; refine aCm (i := 17) (N := some 41) (tf 18 20) (h := fun K hK => ?_); refine gs_ Tryz.func7 #[.slice A0 l0.length c0, .agg #[.int .i64 ((aAl l1 aC).f1.f0), .string ((aAl l1 aC).f1.f1), .int .i64 ((aAl l1 aC).f1.f2.f0), .int .i64 ((aAl l1 aC).f1.f2.f1), .int .i64 ((aAl l1 aC).f1.f2.f2.f0), .int .i64 ((aAl l1 aC).f1.f2.f2.f1), .string ((aAl l1 aC).f1.f2.f2.f2), .string ((aAl l1 aC).f1.f2.f3), .slice aJQ ((aAl l1 aC).f1.f2.f4).length aJE, .slice a8T ((aAl l1 aC).f1.f3).length a2E, .int .i64 ((aAl l1 aC).f1.f4), .slice a4N ((aAl l1 aC).f1.f5).length a7Y]] ?_; (with_reducible refine (rT.calls _ _ _ _ _ _ _ _ _ _ _ _ _ _ _ _ _ _ _ _ _ _ _ _ (ck_ (Kd.aAp jY.out bb_)) oQ.out (ck_ (Kd.aAp MB.out bb_)) a5F.out (ck_ (Kd.aAp EC.out bb_)) XL.out (ck_ (Kd.aAp EN.out bb_)) XM.out A15.out).mono ?_); rintro e w49 ⟨rfl, hb⟩; refine ⟨_, rfl, ?_⟩; replace tN := am_ (Kd.aDq (v3_ tN.out) hb); replace wW := aAt wW hb; replace HB := bs_ hb; (try clear hb); refine hK.out _ _ (hc_ (hb_ HB nS) (hc_ (hb_ HB o8) (hc_ (hb_ HB nR) (hc_ (hb_ HB o9) (hc_ (hb_ HB o6) (hc_ (hb_ HB nT) (hc_ (hb_ HB o7) (hc_ (hb_ HB oC) (hc_ (hb_ HB nX) (hc_ (hb_ HB oD) (hc_ (hb_ HB mH) (hc_ (hb_ HB lY) (hc_ (hb_ HB lU) (hc_ (hb_ HB lX) (hc_ (hb_ HB mF) (hc_ (hb_ HB vR) (hc_ (hb_ HB vK) (hc_ (hb_ HB vL) (hc_ (hb_ HB wD) (hc_ (hb_ HB wI) (hc_ (hb_ HB vD) (hc_ (hb_ HB wE) (hc_ (hb_ HB wK) (hc_ (hb_ HB vF) (hc_ (hb_ HB wJ) (hc_ (hb_ HB qV) (hc_ (hb_ HB qW) (hc_ (hb_ HB qY) (hc_ (hb_ HB qK) (hf_ (hb_ HB qM))))))))))))))))))))))))))))))) (fun hHeld => ?_); clear hK K; refine nm_ ?_; refine aBa 18 (tf 19 19) ?_
         iterate 5 (refine pl_ ?_)
         iterate 12 (refine pd_ ?_)
         iterate 2 (refine pl_ ?_)
         refine dn_ ?_
         try go_wp2
         go_roundg k1
         case measure => have := jK.out; omega
         case rel => exact ⟨(wrap64 (aC + 1)), rs_, H', ⟨by have := jK.out; omega⟩, ⟨bb_⟩⟩
     ·replace c7 := Bool.eq_false_iff.mpr c7
      subst c7; replace H := aZf H; obtain rfl := Option.some.inj H; (refine st_ 38 (hc_ ((hb_ HB nS)) (hc_ ((hb_ HB o8)) (hc_ ((hb_ HB nR)) (hc_ ((hb_ HB o9)) (hc_ ((hb_ HB o6)) (hc_ ((hb_ HB nT)) (hc_ ((hb_ HB o7)) (hc_ ((hb_ HB oC)) (hc_ ((hb_ HB nX)) (hc_ ((hb_ HB oD)) (hc_ ((hb_ HB mH)) (hc_ ((hb_ HB lY)) (hc_ ((hb_ HB lU)) (hc_ ((hb_ HB lX)) (hf_ ((hb_ HB mF))))))))))))))))) (fun hHeld => ?_); refine aAv bR.MV bR.xI (fun HT_ HW_ => ?_)); generalize ZO.drew = w55 at tN wW HB JZ JF JV QA QC SF ET J9 EH JY EU SG PD RP RQ O1 QS OT KP hHeld ⊢
      iterate 4 (refine pl_ ?_)
      refine tl_ ?_; refine aCm (i := 5) (N := some 29) (tf 6 32) (h := fun K hK => ?_); refine gs_ Tryz.func34 #[.string ((aAl l1 aC).f0)] ?_; (with_reducible refine (eB.calls _ _ _ _ A6.out).mono ?_); rintro e w' ⟨rfl, ⟨nd, rfl⟩⟩; refine ⟨_, rfl, ?_⟩; refine hK.out _ _ (hc_ (hb_ HB nS) (hc_ (hb_ HB o8) (hc_ (hb_ HB nR) (hc_ (hb_ HB o9) (hc_ (hb_ HB o6) (hc_ (hb_ HB nT) (hc_ (hb_ HB o7) (hc_ (hb_ HB oC) (hc_ (hb_ HB nX) (hc_ (hb_ HB oD) (hc_ (hb_ HB mH) (hc_ (hb_ HB lY) (hc_ (hb_ HB lU) (hc_ (hb_ HB lX) (hf_ (hb_ HB mF)))))))))))))))) (fun hHeld => ?_); clear hK K; refine nm_ ?_; refine aBa 6 (tf 7 31) ?_; refine pl_ ?_; refine pd_ ?_
      iterate 2 (refine pl_ ?_)
      iterate 8 (refine pd_ ?_)
      iterate 2 (refine pl_ ?_)
      iterate 16 (refine pd_ ?_)
      refine pl_ ?_; refine dn_ ?_
      try go_wp2
      go_ret
      exact ⟨er_, bb_⟩
    ·rw [if_neg c4] at H
     exact nn_ H
   ·rw [if_neg c3] at H
    have fC := decide_eq_false c3; clear c3; replace H := aBp H; obtain ⟨c0V, cCQ, H⟩ := H
    try dsimp only at H
    have A56 := am_ cCQ; clear cCQ
    by_cases c57 : c0V = true
    ·subst c57
     rw [if_pos rfl] at H; obtain rfl := Option.some.inj H
     go_wp2_with (first | ((with_reducible refine aAa (f := 35) rfl ?_); refine aBh (some 63) Tryz.func35 #[.slice A0 l0.length c0] ?_; (with_reducible refine (eF.calls _ _ _ _ _ _ (cb_ jY HB) oQ.out A56.out).mono ?_); rintro e w58 ⟨rfl, hb⟩; refine ⟨_, rfl, ?_⟩; replace HB := bs_ hb; (try clear hb)))
     go_ret
     exact ⟨er_, bb_⟩
    ·replace c57 := Bool.eq_false_iff.mpr c57
     subst c57; replace H := aZf H; obtain rfl := Option.some.inj H
     go_wp2_with (first | ((with_reducible refine aAa (f := 35) rfl ?_); refine aBh (some 63) Tryz.func35 #[.slice A0 l0.length c0] ?_; (with_reducible refine (eF.calls _ _ _ _ _ _ (cb_ jY HB) oQ.out A56.out).mono ?_); rintro e w59 ⟨rfl, hb⟩; refine ⟨_, rfl, ?_⟩; replace HB := bs_ hb; (try clear hb)))
     go_ret
     exact ⟨er_, bb_⟩
end Go.Proofs.YtnobhkmpkichdaaGreat.PFnExactViewsOk
