import Derived.Test.YtnobhkmpkichdaaGreatPress5
import Derived.Test.YtnobhkmpkichdaaGreatPFnExactViewsOkx2
import Derived.Test.YtnobhkmpkichdaaGreatPFnExactViewsOkx3
namespace Go.Proofs.YtnobhkmpkichdaaGreat.PFnExactViewsOk
open Go.RowKit YtnobhkmpkichdaaGreatW.PrintWords YtnobhkmpkichdaaGreatW.PrintLast YtnobhkmpkichdaaGreatW.PrintMore
attribute [local go_sem] aDf aDi aEf aEe aCs aCt aDh aDg
set_option linter.unusedVariables false
set_option maxHeartbeats 8000000
set_option maxRecDepth 100000
set_option linter.unusedSimpArgs false
mutual
def aN.j0 : Nat → List S68 → Int → Bool → Int → ByteArray → Int → Int → Int → Int → ByteArray → ByteArray → List S39 → List S39 → Int → List S42 → Option Int
 | 0, _, _, _, _, _, _, _, _, _, _, _, _, _, _, _ => none
 | k + 1, x0, x2, x19, yE, VY, QG, PW, QJ, RH, RB, O6, RV, tT, M9, mO => if x19 = true then (some (-1)) else (aN.l0 k x0 x2 (([0, 0] : List Int)) 0 yE VY QG PW QJ RH RB O6 RV tT M9 mO)
def aN.l0 : Nat → List S68 → Int → List Int → Int → Int → ByteArray → Int → Int → Int → Int → ByteArray → ByteArray → List S39 → List S39 → Int → List S42 → Option Int
 | 0, _, _, _, _, _, _, _, _, _, _, _, _, _, _, _, _ => none
 | k + 1, x0, x2, x7, x8, yE, VY, QG, PW, QJ, RH, RB, O6, RV, tT, M9, mO => if x8 < (mO.length : Int) then (if 0 ≤ x8 then ((aN.f k x0 ((aAe mO x8).f0) ((aAe mO x8).f1) ((aAe mO x8).f2.f0) ((aAe mO x8).f2.f1) ((aAe mO x8).f2.f2.f0) ((aAe mO x8).f2.f2.f1) ((aAe mO x8).f2.f2.f2) ((aAe mO x8).f2.f3) ((aAe mO x8).f2.f4) ((aAe mO x8).f3) ((aAe mO x8).f4) ((aAe mO x8).f5) (wrap64 (x2 - 1))).bind fun a5U => (if x8 < (x7.length : Int) then ((some (x7.set (x8 : Int).toNat a5U : List Int)).bind fun Z6 => (if (rd Z6 x8) < 0 then (some (-1)) else (aN.l0 k x0 x2 Z6 (wrap64 (x8 + 1)) yE VY QG PW QJ RH RB O6 RV tT M9 mO))) else (none))) else (none)) else (if 0 < (x7.length : Int) then (if yE = 0 then ((gL.f k x0 VY).bind fun b75 => (if b75.2.2 = true then (if b75.1 > 12 then (some (-1)) else (some b75.1)) else (some (-1)))) else (if yE = 1 then ((jM.f k QG PW QJ RH RB O6 RV (rd x7 0)).bind fun bUL => (if bUL = true then (if (rd x7 0) > 12 then (some (-1)) else (some (rd x7 0))) else (some (-1)))) else (if yE = 2 then (if (tT.length : Int) > 0 then ((iP.f k tT (rd x7 0)).bind fun bTZ => (if bTZ = true then (if (tT.length : Int) > 12 then (some (-1)) else (some (tT.length : Int))) else (some (-1)))) else (some (-1))) else (if yE = 3 then (if 1 < (x7.length : Int) then ((jM.f k QG PW QJ RH RB O6 RV (wrap64 ((rd x7 0) + (rd x7 1)))).bind fun bTY => (if bTY = true then (if (wrap64 ((rd x7 0) + (rd x7 1))) > 12 then (some (-1)) else (some (wrap64 ((rd x7 0) + (rd x7 1))))) else (some (-1)))) else (none)) else (if yE = 4 then (if 1 < (x7.length : Int) then (if ((rd x7 0) = (rd x7 1)) then (if (rd x7 0) > 12 then (some (-1)) else (some (rd x7 0))) else (some (-1))) else (none)) else (if yE = 6 then ((bN.f M9 0 (rd x7 0)).bind fun bZF => (if bZF = true then (if (tT.length : Int) ≤ 1 then ((iP.f k tT (rd x7 0)).bind fun bS7 => (if bS7 = true then (if (wrap64 ((wrap64 (M9 + 1)) + (tT.length : Int))) > 12 then (some (-1)) else (some (wrap64 ((wrap64 (M9 + 1)) + (tT.length : Int))))) else (some (-1)))) else (some (-1))) else (some (-1)))) else (if (rd x7 0) > 12 then (some (-1)) else (some (rd x7 0))))))))) else (none))
def aN.f : Nat → List S68 → Int → ByteArray → Int → Int → Int → Int → ByteArray → ByteArray → List S39 → List S39 → Int → List S42 → Int → Option Int
 | 0, _, _, _, _, _, _, _, _, _, _, _, _, _, _ => none
 | k + 1, l0, aX, bD, bJ, bX, bY, bV, eX, eY, dU, dB, dC, aY, a2 => if a2 < 0 then (aN.j0 k l0 a2 true aX bD bJ bX bY bV eX eY dU dB dC aY) else ((bF.f k aX bD bJ bX bY bV eX eY dU dB dC aY).bind fun b70 => (aN.j0 k l0 a2 (!b70) aX bD bJ bX bY bV eX eY dU dB dC aY))
end
def aN.T18 : Bool × List (List Nat × List Nat) := (true, [([], []), ([0], [0]), ([1], [1]), ([], []), ([3], [3]), ([4], [4]), ([5], [5]), ([6], [6]), ([7], [7]), ([8, 7], [7, 8]), ([7], [7]), ([10, 7], [7, 10]), ([11, 7], [7, 11]), ([9, 12, 7, 7], [7, 9, 12]), ([7, 13], [7, 13]), ([2, 13, 0, 1, 2], [2]), ([14, 15, 0, 1, 2, 3, 4, 5, 6, 7, 8, 9, 10, 11, 12, 13, 14, 15], [14])])
def aN.B18 : List Nat := [0, 1, 3, 0, 8, 24, 56, 120, 248, 504, 248, 1272, 3320, 8184, 16376, 16383, 65535]
theorem aN.bQ6 : aEr .any (opsOf Tryz.f22 18) = aN.T18 := by kernel_rfl
theorem aN.b8O : aBu aN.T18.2 aN.B18 = true := by kernel_rfl
def aN.T20 : Bool × List (List Nat × List Nat) := (true, [([], []), ([0], [0]), ([1], [1]), ([], []), ([3], [3]), ([4], [4]), ([2, 5], [2, 5]), ([], []), ([7], [7]), ([], []), ([9], [9]), ([10], [10]), ([], []), ([12], [12]), ([13], [13]), ([11, 14], [11, 14]), ([8, 15], [8, 15]), ([6, 16, 0, 1, 2, 3, 4, 5, 6], [6]), ([16, 17, 0, 1, 2, 3, 4, 5, 6, 7, 8, 9, 10, 11, 12, 13, 14, 15, 16, 17], [16])])
def aN.B20 : List Nat := [0, 1, 3, 0, 8, 24, 63, 0, 128, 0, 512, 1536, 0, 4096, 12288, 32256, 65408, 131071, 262143]
theorem aN.c7U : aEr .any (opsOf Tryz.f22 20) = aN.T20 := by kernel_rfl
theorem aN.bW4 : aBu aN.T20.2 aN.B20 = true := by kernel_rfl
def aN.T22 : Bool × List (List Nat × List Nat) := (true, [([], []), ([0], [0]), ([1], [1]), ([], []), ([3], [3]), ([4], [4]), ([2, 5], [2, 5]), ([6, 0, 1, 2, 3, 4, 5, 6], [6])])
def aN.B22 : List Nat := [0, 1, 3, 0, 8, 24, 63, 127]
theorem aN.c8W : aEr .any (opsOf Tryz.f22 22) = aN.T22 := by kernel_rfl
theorem aN.bVA : aBu aN.T22.2 aN.B22 = true := by kernel_rfl
def aN.T24 : Bool × List (List Nat × List Nat) := (true, [([], []), ([0], [0]), ([1], [1]), ([], []), ([3], [3]), ([4], [4]), ([2, 5], [2, 5]), ([], []), ([7], [7]), ([], []), ([9], [9]), ([10], [10]), ([8, 11], [8, 11]), ([12, 12], [12]), ([13], [13]), ([14, 13], [13, 14]), ([15, 13], [13, 15]), ([16, 13], [13, 16]), ([13, 17], [13, 17]), ([18, 13], [18]), ([19], [19]), ([20, 19], [19, 20]), ([19], [19]), ([22, 19], [19, 22]), ([23, 19], [19, 23]), ([21, 24, 19, 19], [19, 21, 24]), ([19, 25], [19, 25]), ([6, 25, 0, 1, 2, 3, 4, 5, 6], [6]), ([26, 27, 0, 1, 2, 3, 4, 5, 6, 7, 8, 9, 10, 11, 12, 13, 14, 15, 16, 17, 18, 19, 20, 21, 22, 23, 24, 25, 26, 27], [26])])
def aN.B24 : List Nat := [0, 1, 3, 0, 8, 24, 63, 0, 128, 0, 512, 1536, 3968, 8064, 16256, 32640, 65408, 130944, 262016, 524160, 1048448, 2097024, 1048448, 5242752, 13631360, 33554304, 67108736, 67108863, 268435455]
theorem aN.b0M : aEr .any (opsOf Tryz.f22 24) = aN.T24 := by kernel_rfl
theorem aN.aJ7 : aBu aN.T24.2 aN.B24 = true := by kernel_rfl
theorem aN.calls (k : Nat) : ∀ (A0 : Option Addr) (c0 : Nat) (l0 : List S68) (aX : Int) (bD : ByteArray) (bJ bX : Int) (bY bV : Int) (eX eY : ByteArray) (iX : Option Addr) (iY : Nat) (dU : List S39) (iA : Option Addr) (gZ : Nat) (dB : List S39) (dC : Int) (fP : Option Addr) (fG : Nat) (aY : List S42) (a2 r : Int) (w : World) (hr0 : Kd.C BC w A0 l0.length l0) (hc0 : l0.length ≤ c0) (nM : Kd.C jX w iX dU.length dU) (nP : dU.length ≤ iY) (mK : Kd.C jX w iA dB.length dB) (mM : dB.length ≤ gZ) (kJ : Kd.C E5 w fP aY.length aY) (kI : aY.length ≤ fG) (h : aN.f k l0 aX bD bJ bX bY bV eX eY dU dB dC aY a2 = some r),
  Calls Tryz.prog 22 #[.slice A0 l0.length c0, .agg #[.int .i64 aX, .string bD, .int .i64 bJ, .int .i64 bX, .int .i64 bY, .int .i64 bV, .string eX, .string eY, .slice iX dU.length iY, .slice iA dB.length gZ, .int .i64 dC, .slice fP aY.length fG], .int .i64 a2] w fun e w' => e = .returned (.int .i64 r) ∧ Below w.heap.size w w' := by
 induction k using Nat.strongRecOn with
 | _ k ih =>
 intro A0 c0 l0 aX bD bJ bX bY bV eX eY iX iY dU iA gZ dB dC fP fG aY a2 r w hr0 hc0 nM nP mK mM kJ kI h
 cases k with
 | zero => exact absurd h (by simp [aN.f])
 | succ k =>
 simp only [aN.f] at h
 obtain ⟨MW, NT, zH⟩ := c5J
 have jY := am_ hr0
 have oQ := am_ hc0
 clear hr0 hc0
 have rZ := am_ nM
 have rX := am_ nP
 clear nM nP
 have oP := am_ mK
 have oL := am_ mM
 clear mK mM
 have qE := am_ kJ
 have rU := am_ kI
 clear kJ kI
 have HB := am_ (Below.refl w.heap.size w)
 have H : (if a2 < 0 then (aN.j0 k l0 a2 true aX bD bJ bX bY bV eX eY dU dB dC aY) else ((bF.f k aX bD bJ bX bY bV eX eY dU dB dC aY).bind fun b70 => (aN.j0 k l0 a2 (!b70) aX bD bJ bX bY bV eX eY dU dB dC aY))) = some r := h
 clear h
 have HC4 := am_ H
 clear H
 go_enter Tryz.func22, Tryz.ntmps22
 go_upto_region 1 with (first | ((with_reducible refine aAc (N := 4) rfl ?_); (try (refine aAn (by rfl) ?_; dsimp only)); refine bx_ 4 #[.int .i64 aX, .string bD, .int .i64 bJ, .int .i64 bX, .int .i64 bY, .int .i64 bV, .string eX, .string eY, .slice iX dU.length iY, .slice iA dB.length gZ, .int .i64 dC, .slice fP aY.length fG] 42 ?_; intro NE hg w5 hbox hb; have dK := am_ (hbox); have b6Y := gw_ hg; replace HB := bs_ hb; clear hb hbox hg))
 (try simp only [Act.put, List.setIfInBounds_toArray, List.set_cons_zero, List.set_cons_succ])
 go_cut [19] (fun v19 wc => ∃ (kq : Nat) (aW3 : Bool), v19 = .bool aW3 ∧ Aside0 (aN.j0 kq l0 a2 aW3 aX bD bJ bX bY bV eX eY dU dB dC aY = some r) ∧ Aside0 (kq ≤ k) ∧ Aside0 (wc.heap[NE]? = some (.cells #[.int .i64 aX, .string bD, .int .i64 bJ, .int .i64 bX, .int .i64 bY, .int .i64 bV, .string eX, .string eY, (.slice iX dU.length iY), (.slice iA dB.length gZ), .int .i64 dC, (.slice fP aY.length fG)] 42 (0, 0))) ∧ Aside0 (Below w.heap.size w wc))
 case first =>
  have H := HC4.out; clear HC4
  by_cases c6 : a2 < 0
  ·rw [if_pos c6] at H
   have mY := decide_eq_true c6; clear c6; (first | rw [mY] | (simp only [aCj, aCw]; rw [mY]) | skip); have H' := am_ H; clear H
   go_wp2
   go_meet
   case rel => exact ⟨_, (true), rs_, H', ⟨by first | omega | exact Nat.le_refl _⟩, ⟨aBx dK.out⟩, ⟨bb_⟩⟩
  ·rw [if_neg c6] at H
   have mY := decide_eq_false c6; clear c6; (first | rw [mY] | (simp only [aCj, aCw]; rw [mY]) | skip); replace H := aBp H; obtain ⟨b70, ZI, H⟩ := H
   try dsimp only at H
   have A7 := am_ ZI; clear ZI; have H' := am_ H; clear H; obtain ⟨qI, qG, xA, AQ, zB, zZ, AC, SQ, TZ, TB, LH, KL, qF, qH, xD, zU, yU, zQ, zI, U2, TW, SX, MS, M5⟩ := aBw dK
   go_wp2_with (first | (go_at_call 47; (with_reducible refine (bF.calls _ _ _ _ _ _ _ _ _ _ _ _ _ _ _ _ _ _ _ _ _ (cb_ rZ HB) rX.out (cb_ oP HB) oL.out (cb_ qE HB) rU.out A7.out).mono ?_); rintro e w9 ⟨rfl, hb⟩; have n0_ := aAt dK hb; have n1_ := bs_ hb; clear dK; clear HB; have dK := n0_; have HB := n1_; clear n0_ n1_; (try clear hb)))
   go_meet
   case rel => exact ⟨_, (!b70), rs_, H', ⟨by first | omega | exact Nat.le_refl _⟩, ⟨aBx dK.out⟩, ⟨bb_⟩⟩
 case rest =>
  clear HC4; (try clear c1); (try clear c2); (try clear p2); (try clear c6); (try clear mY); (try clear qI qG); (try clear LH); (try clear KL); (try clear xA AQ zB zZ AC SQ TZ TB qF qH); (try clear MS); (try clear M5); (try clear xD zU yU zQ zI U2 TW SX); obtain ⟨kq, aW3, rfl, HA, HJ3, dK, HB⟩ := hcut
  cases kq with
  | zero => exact absurd HA.out (by simp [aN.j0])
  | succ kj3 =>
   have H := HA.out; clear HA; simp only [aN.j0] at H
   by_cases c10 : aW3 = true
   ·subst c10
    rw [if_pos rfl] at H; obtain rfl := Option.some.inj H
    go_wp2
    go_ret
    exact ⟨er_, bb_⟩
   ·replace c10 := Bool.eq_false_iff.mpr c10
    subst c10; replace H := aZf H; obtain ⟨cC8, aGJ⟩ : ∃ y_ : List Int, y_ = (([0, 0] : List Int)) := ⟨_, rfl⟩; (replace H : (aN.l0 kj3 l0 a2 cC8 0 aX bD bJ bX bY bV eX eY dU dB dC aY) = some r := by first | (rw [aGJ]; with_reducible exact H) | (have jC := (Option.bind_some _ _).symm.trans H; rw [aGJ]; with_reducible exact jC) | (have jC := (Option.bind_some _ _).symm.trans H; with_reducible exact jC) | with_reducible exact H | (rw [aGJ]; exact H) | exact H); have bQJ := am_ aGJ; clear aGJ; have H' := am_ H; clear H
    go_wp2_with (first | ((with_reducible refine aAc (N := 20) rfl ?_); (try (refine aAn (by rfl) ?_; dsimp only)); refine Kd.aPq (Kd.int .i64) _ 3 ?hg (N := 20) ?hd (xs := ([0, 0] : List Int)) (inner := [.int .i64 0, .int .i64 0]) (ok := fun _ => True) (okp := fun _ => True) ?hr ?hp (fun _ hk => hk) trivial (Below.refl _ _) (Nat.le_refl _) (by simp) ?_; (case hd => rfl); (case hg => rfl); (case hr => first | (go_simp; done) | (go_simp; rfl)); (case hp => exact (aBt.one (show Kd.M (Kd.int .i64) _ _ _ 0 [.int .i64 0] from rfl) (aBt.one (show Kd.M (Kd.int .i64) _ _ _ 0 [.int .i64 0] from rfl) (aBt.none _ _)))); intro d26 jI b6X hb DZ j4; clear DZ j4; (first | rw [← bQJ.out] at b6X | (simp only [Int.reduceToNat] at b6X; rw [← bQJ.out] at b6X)); have c9L := am_ (Kd.aBc b6X (aAj bb_)); replace dK := aAt dK hb; replace HB := bs_ hb; clear hb b6X))
    go_loopg [8] kj3 (fun kq v8 w' => ∃ (iW : List Int) (gD : Int), v8 = .int .i64 gD ∧ Aside0 (aN.l0 kq l0 a2 iW gD aX bD bJ bX bY bV eX eY dU dB dC aY = some r) ∧ Aside0 (kq ≤ kj3) ∧ Aside0 (Kd.R (Kd.int .i64) 3 w' w.heap.size (fun _ => True) d26 iW) ∧ Aside0 (w'.heap[NE]? = some (.cells #[.int .i64 aX, .string bD, .int .i64 bJ, .int .i64 bX, .int .i64 bY, .int .i64 bV, .string eX, .string eY, (.slice iX dU.length iY), (.slice iA dB.length gZ), .int .i64 dC, (.slice fP aY.length fG)] 42 (0, 0))) ∧ Aside0 (Below w.heap.size w w'))
    case atStart => exact ⟨(cC8), (0), rs_, H', ⟨Nat.le_refl _⟩, ⟨by (with_reducible repeat (first | apply Kd.aBf | apply Kd.aBg | apply Kd.aBi)); exact c9L.out⟩, ⟨aBx dK.out⟩, ⟨bb_⟩⟩
    case round =>
     clear H'; (try clear c1); (try clear c2); (try clear p2); (try clear c6); (try clear mY); (try clear c10); (try clear qI qG); (try clear LH); (try clear KL); (try clear xA AQ zB zZ AC SQ TZ TB qF qH); (try clear MS); (try clear M5); (try clear xD zU yU zQ zI U2 TW SX); (try clear p2); obtain ⟨iW, gD, rfl, HA, YB, gW, dK, HB⟩ := hrel
     cases gk with
     | zero => exact absurd HA.out (by simp [aN.l0])
     | succ k2 =>
      have H := HA.out; clear HA; simp only [aN.l0] at H
      by_cases c13 : gD < (aY.length : Int)
      ·rw [if_pos c13] at H
       have JL := decide_eq_true c13; clear c13
       by_cases c14 : 0 ≤ gD
       ·rw [if_pos c14] at H
        have ZK := decide_eq_true c14; clear c14; replace H := aBp H; obtain ⟨a5U, a00, H⟩ := H
        try dsimp only at H
        have A15 := am_ a00; clear a00
        by_cases c16 : gD < (iW.length : Int)
        ·rw [if_pos c16] at H
         have GY := decide_eq_true c16; clear c16; obtain ⟨Z6, aH2⟩ : ∃ y_ : List Int, y_ = (iW.set (gD : Int).toNat a5U) := ⟨_, rfl⟩; (replace H : (if (rd Z6 gD) < 0 then (some (-1)) else (aN.l0 k2 l0 a2 Z6 (wrap64 (gD + 1)) aX bD bJ bX bY bV eX eY dU dB dC aY)) = some r := by first | (rw [aH2]; with_reducible exact H) | (have jC := (Option.bind_some _ _).symm.trans H; rw [aH2]; with_reducible exact jC) | (have jC := (Option.bind_some _ _).symm.trans H; with_reducible exact jC) | with_reducible exact H | (rw [aH2]; exact H) | exact H); have aXQ := am_ aH2; clear aH2; have gY := am_ H; clear H; obtain ⟨yC, yG, yI, CK, C8, DL, CZ, QE, PO, R8, IL, J2, xX, xR, yF, BO, BS, CR, CO, O3, PP, PV, JD, J5⟩ := aBw dK; (have bWX : 0 ≤ (gD : Int) := oa_); (have bZ1 : gD < (aY.length : Int) := oa_); obtain ⟨bPV, b7W, b3B, b3W, b6J, aXE, aUM, d23, aUP, aO7, aVX, aKX, aL1, aT3, aRY, aO4, aKJ, aVZ, aDB, aGI, aKK, aVI, aOK, aLZ, aEA, aFD⟩ := YA qE.out gD bWX bZ1; cases d23; obtain ⟨aUP, aO7, aVX, aKX, aL1, aT3, aRY, aO4, aKJ, aVZ, aDB, aGI⟩ := aNq HB aUP aO7 aVX aKX aL1 aT3 aRY aO4 aKJ aVZ aDB aGI; have aKR := am_ aVI; have aSX := am_ aKK; clear aVI aKK; have aSE := am_ aLZ; have aWA := am_ aOK; clear aLZ aOK; have aH0 := am_ aFD; have aGX := am_ aEA; clear aFD aEA; replace bWX := eq_true bWX; replace bZ1 := eq_true bZ1; have H := gY.out; clear gY
         by_cases c18 : (rd Z6 gD) < 0
         ·rw [if_pos c18] at H
          have a1M := decide_eq_true c18; clear c18; obtain rfl := Option.some.inj H
          go_wp2_with (first | ((with_reducible refine aAa (f := 22) rfl ?_); refine aBh (some 38) Tryz.func22 #[.slice A0 l0.length c0, .agg #[.int .i64 ((aAe aY gD).f0), .string ((aAe aY gD).f1), .int .i64 ((aAe aY gD).f2.f0), .int .i64 ((aAe aY gD).f2.f1), .int .i64 ((aAe aY gD).f2.f2.f0), .int .i64 ((aAe aY gD).f2.f2.f1), .string ((aAe aY gD).f2.f2.f2), .string ((aAe aY gD).f2.f3), .slice b7W ((aAe aY gD).f2.f4).length b3B, .slice b3W ((aAe aY gD).f3).length b6J, .int .i64 ((aAe aY gD).f4), .slice aXE ((aAe aY gD).f5).length aUM], .int .i64 (wrap64 (a2 - 1))] ?_; (with_reducible refine (ih k2 (by have := HJ3.out; have := YB.out; omega) _ _ l0 ((aAe aY gD).f0) ((aAe aY gD).f1) ((aAe aY gD).f2.f0) ((aAe aY gD).f2.f1) ((aAe aY gD).f2.f2.f0) ((aAe aY gD).f2.f2.f1) ((aAe aY gD).f2.f2.f2) ((aAe aY gD).f2.f3) _ _ ((aAe aY gD).f2.f4) _ _ ((aAe aY gD).f3) ((aAe aY gD).f4) _ _ ((aAe aY gD).f5) (wrap64 (a2 - 1)) a5U _ ?fM ?fO ?iN ?j3 ?zO ?zL ?PU ?OL A15.out).mono ?_); (case fM => exact cb_ jY HB); (case fO => exact oQ.out); (case iN => exact cb_ aKR HB); (case j3 => exact aSX.out); (case zO => exact cb_ aSE HB); (case zL => exact aWA.out); (case PU => exact cb_ aH0 HB); (case OL => exact aGX.out); rintro e w20 ⟨rfl, hb⟩; refine ⟨_, rfl, ?_⟩; replace gW := am_ (Kd.aAs (rk_ gW.out) hb); replace dK := aAt dK hb; replace HB := bs_ hb; (try clear hb); have p17 : 0 ≤ (gD : Int) := oa_; have q17 : (gD : Int) < ((iW.length : Int) : Int) := oa_; obtain ⟨aAW, bTQ, b42, b93, bTO, d5J, bA1⟩ := Kd.aIf gW.out (by omega); (first | cases b42 | (injection b42 with rW SI TD; (first | subst rW | (injection rW with rW; subst rW)); subst TD; clear SI)); have bU2 := am_ b93; have d5Y := am_ bA1; clear b93 bTO bA1; obtain ⟨bSK, bW1⟩ := Kd.aLd 0 gW.out (gD : Int) p17 q17; replace p17 := eq_true p17; replace q17 := eq_true q17; obtain ⟨dAM, d9L⟩ := Kd.aLd 0 gW.out (gD : Int) (oa_) (oa_); have bWF := Kd.aUb gW.out (gD : Int) a5U) | ((with_reducible refine aDn (t := 3) (p := 39) rfl ?_); refine aCy (t := 3) (p := 39) (v := ?d2E) (w1 := (w20.setCell ⟨aAW, (gD : Int).toNat, none⟩ (.int .i64 a5U))) ?hg ?ho ?hn ?hr ?_; (case ho => rfl); (case hg => rfl); (case hn => rfl); (case hr => first | (go_simp; done) | (go_simp; rfl)); intro w22 hw; have hg : w20.grownBy w22 (some aAW) := (by rw [hw]; exact bWF.2); have ZG : Kd.R (Kd.int .i64) 3 w22 w.heap.size (fun _ => True) (.slice (some ⟨aAW, 0, none⟩) iW.length bTQ) Z6 := (by rw [hw, aXQ.out]; exact bWF.1); clear bWF; have n0_ := am_ (ZG); have n1_ := am_ (aFd (g := NE) (o := .cells #[.int .i64 aX, .string bD, .int .i64 bJ, .int .i64 bX, .int .i64 bY, .int .i64 bV, .string eX, .string eY, .slice iX dU.length iY, .slice iA dB.length gZ, .int .i64 dC, .slice (some bPV) aY.length fG] 42 (0, 0)) (aBx dK.out) hg (Kd.aWf gW.out dK.out (by decide))); have pO := am_ ((by rw [hw]; exact aAk (HB.out) bU2.out : Below w.heap.size w w22)); clear gW; clear dK; clear HB; have gW := n0_; have dK := n1_; have HB := pO; clear n0_ n1_ pO; clear hg hw ZG; have aK1 : 0 ≤ (gD : Int) := oa_; have aK5 : gD < (Z6.length : Int) := (by have h_ : (gD : Int) < ((iW.length : Int) : Int) := oa_; first | (have e_ := (Kd.aAr gW.out).1; omega) | simpa only [aXQ.out, List.length_set] using h_); have cDP : ((gD : Int) < ((iW.length : Int) : Int)) = True := eq_true (oa_); obtain ⟨b3F, e296, FE⟩ := Kd.aCe (Kd.aAr gW.out).2.2 gD aK1 aK5; obtain rfl : (⟨aAW, 0, none⟩ : Addr) = b3F := (by injection e296); (first | simp only [add_plain] at FE | simp only [aUf] at FE | simp only [Addr.add, Nat.zero_add] at FE | skip); replace aK1 := eq_true aK1; replace aK5 := eq_true aK5))
          go_ret
          exact ⟨er_, bb_⟩
         ·rw [if_neg c18] at H
          have a1M := decide_eq_false c18; clear c18; have H' := am_ H; clear H
          go_wp2_with (first | ((with_reducible refine aAa (f := 22) rfl ?_); refine aBh (some 38) Tryz.func22 #[.slice A0 l0.length c0, .agg #[.int .i64 ((aAe aY gD).f0), .string ((aAe aY gD).f1), .int .i64 ((aAe aY gD).f2.f0), .int .i64 ((aAe aY gD).f2.f1), .int .i64 ((aAe aY gD).f2.f2.f0), .int .i64 ((aAe aY gD).f2.f2.f1), .string ((aAe aY gD).f2.f2.f2), .string ((aAe aY gD).f2.f3), .slice b7W ((aAe aY gD).f2.f4).length b3B, .slice b3W ((aAe aY gD).f3).length b6J, .int .i64 ((aAe aY gD).f4), .slice aXE ((aAe aY gD).f5).length aUM], .int .i64 (wrap64 (a2 - 1))] ?_; (with_reducible refine (ih k2 (by have := HJ3.out; have := YB.out; omega) _ _ l0 ((aAe aY gD).f0) ((aAe aY gD).f1) ((aAe aY gD).f2.f0) ((aAe aY gD).f2.f1) ((aAe aY gD).f2.f2.f0) ((aAe aY gD).f2.f2.f1) ((aAe aY gD).f2.f2.f2) ((aAe aY gD).f2.f3) _ _ ((aAe aY gD).f2.f4) _ _ ((aAe aY gD).f3) ((aAe aY gD).f4) _ _ ((aAe aY gD).f5) (wrap64 (a2 - 1)) a5U _ ?fM ?fO ?iN ?j3 ?zO ?zL ?PU ?OL A15.out).mono ?_); (case fM => exact cb_ jY HB); (case fO => exact oQ.out); (case iN => exact cb_ aKR HB); (case j3 => exact aSX.out); (case zO => exact cb_ aSE HB); (case zL => exact aWA.out); (case PU => exact cb_ aH0 HB); (case OL => exact aGX.out); rintro e w24 ⟨rfl, hb⟩; refine ⟨_, rfl, ?_⟩; replace gW := am_ (Kd.aAs (rk_ gW.out) hb); replace dK := aAt dK hb; replace HB := bs_ hb; (try clear hb); have p17 : 0 ≤ (gD : Int) := oa_; have q17 : (gD : Int) < ((iW.length : Int) : Int) := oa_; obtain ⟨aAW, bTQ, b42, b93, bTO, d5J, bA1⟩ := Kd.aIf gW.out (by omega); (first | cases b42 | (injection b42 with rW SI TD; (first | subst rW | (injection rW with rW; subst rW)); subst TD; clear SI)); have bU2 := am_ b93; have d5Y := am_ bA1; clear b93 bTO bA1; obtain ⟨bSK, bW1⟩ := Kd.aLd 0 gW.out (gD : Int) p17 q17; replace p17 := eq_true p17; replace q17 := eq_true q17; obtain ⟨d89, d98⟩ := Kd.aLd 0 gW.out (gD : Int) (oa_) (oa_); have bUR := Kd.aUb gW.out (gD : Int) a5U) | ((with_reducible refine aDn (t := 3) (p := 39) rfl ?_); refine aCy (t := 3) (p := 39) (v := ?d4D) (w1 := (w24.setCell ⟨aAW, (gD : Int).toNat, none⟩ (.int .i64 a5U))) ?hg ?ho ?hn ?hr ?_; (case ho => rfl); (case hg => rfl); (case hn => rfl); (case hr => first | (go_simp; done) | (go_simp; rfl)); intro w26 hw; have hg : w24.grownBy w26 (some aAW) := (by rw [hw]; exact bUR.2); have ZG : Kd.R (Kd.int .i64) 3 w26 w.heap.size (fun _ => True) (.slice (some ⟨aAW, 0, none⟩) iW.length bTQ) Z6 := (by rw [hw, aXQ.out]; exact bUR.1); clear bUR; have n0_ := am_ (ZG); have n1_ := am_ (aFd (g := NE) (o := .cells #[.int .i64 aX, .string bD, .int .i64 bJ, .int .i64 bX, .int .i64 bY, .int .i64 bV, .string eX, .string eY, .slice iX dU.length iY, .slice iA dB.length gZ, .int .i64 dC, .slice (some bPV) aY.length fG] 42 (0, 0)) (aBx dK.out) hg (Kd.aWf gW.out dK.out (by decide))); have pO := am_ ((by rw [hw]; exact aAk (HB.out) bU2.out : Below w.heap.size w w26)); clear gW; clear dK; clear HB; have gW := n0_; have dK := n1_; have HB := pO; clear n0_ n1_ pO; clear hg hw ZG; have aK1 : 0 ≤ (gD : Int) := oa_; have aK5 : gD < (Z6.length : Int) := (by have h_ : (gD : Int) < ((iW.length : Int) : Int) := oa_; first | (have e_ := (Kd.aAr gW.out).1; omega) | simpa only [aXQ.out, List.length_set] using h_); have cDP : ((gD : Int) < ((iW.length : Int) : Int)) = True := eq_true (oa_); obtain ⟨b3F, e296, FE⟩ := Kd.aCe (Kd.aAr gW.out).2.2 gD aK1 aK5; obtain rfl : (⟨aAW, 0, none⟩ : Addr) = b3F := (by injection e296); (first | simp only [add_plain] at FE | simp only [aUf] at FE | simp only [Addr.add, Nat.zero_add] at FE | skip); replace aK1 := eq_true aK1; replace aK5 := eq_true aK5))
          go_roundg k2
          case measure => have := HJ3.out; have := YB.out; omega
          case rel => exact ⟨(Z6), (wrap64 (gD + 1)), rs_, H', ⟨by have := HJ3.out; have := YB.out; omega⟩, ⟨by (with_reducible repeat (first | apply Kd.aBf | apply Kd.aBg | apply Kd.aBi)); exact gW.out⟩, ⟨aBx dK.out⟩, ⟨bb_⟩⟩
        ·rw [if_neg c16] at H
         exact nn_ H
       ·rw [if_neg c14] at H
        exact nn_ H
      ·rw [if_neg c13] at H
       have JL := decide_eq_false c13; clear c13
       by_cases fV : 0 < (iW.length : Int)
       ·rw [if_pos fV] at H
        have bAP := decide_eq_true fV; have c4D : decide (0 < iW.length) = true := decide_eq_true (by omega); clear fV; have gY := am_ H; clear H; obtain ⟨M6, ME, ML, LU, LA, KO, LX, a8M, aBO, a9M, Y6, YF, LZ, M7, KF, MP, MM, KH, LY, a5W, a4Q, a6H, ZN, ZA⟩ := aBw dK; obtain ⟨bYO, aYV, bXR⟩ := Kd.aBj gW.out; subst bXR; have c1F : 0 ≤ (0 : Int) := (by omega); (have bUK : 0 < (iW.length : Int) := oa_); obtain ⟨EF, e297, aW9⟩ := Kd.aCe (Kd.aAr gW.out).2.2 0 c1F bUK; cases e297; have d8B : (0 < iW.length) = True := eq_true (by omega); (try rw [show ((0 : Int)).toNat = 0 from rfl] at aW9); (try rw [Addr.add_zero'] at aW9); replace c1F := eq_true c1F; replace bUK := eq_true bUK; have H := gY.out; clear gY
        by_cases c28 : aX = 0
        ·rw [if_pos c28] at H
         have YS : (aX == 0) = true := beq_iff_eq.mpr c28; have aBZ : (aX != 0) = false := bne_eq_false_iff_eq.mpr c28; clear c28; replace H := aBp H; obtain ⟨⟨d4U, dCW, d6U⟩, aFO, H⟩ := H
         try dsimp only at H
         have A29 := am_ aFO; clear aFO
         by_cases c30 : d6U = true
         ·subst c30
          rw [if_pos rfl] at H
          by_cases c31 : d4U > 12
          ·rw [if_pos c31] at H
           have aMK := decide_eq_true c31; clear c31; obtain rfl := Option.some.inj H
           go_wp2_with (first | ((with_reducible refine aAa (f := 33) rfl ?_); refine aBh (some 56) Tryz.func33 #[.slice A0 l0.length c0, .string bD] ?_; (with_reducible refine (gL.calls _ (fun k_ => k_ < w.heap.size) _ _ _ _ _ _ _ _ (Kd.aSp oQ.out (Kd.aEo (Kd.C_F AB jY.out) bb_)) A29.out).mono ?_); rintro e w34 ⟨c9O, rfl, ho0, hb⟩; refine ⟨_, rfl, ?_⟩; have IA := am_ (Kd.aGo (Kd.aEa (ok' := fun k_ => some k_ ≠ (.slice (some EF) iW.length aYV : Value).ownBlock ∧ k_ ≠ NE) ho0 (fun k_ hk_ => ⟨Or.elim hk_ (fun hs_ => fun e_ => Nat.not_le.2 hs_ (Kd.aCn gW.out k_ e_.symm)) (fun hn_ => (Kd.fresh' (Kd.aHf (rk_ gW.out)) k_ hn_)), Or.elim hk_ (fun hs_ => fun e_ => Nat.not_le.2 hs_ (by rw [e_]; exact b6Y.out)) (fun hn_ => (Kd.aKv (g := NE) (o := .cells #[.int .i64 aX, .string bD, .int .i64 bJ, .int .i64 bX, .int .i64 bY, .int .i64 bV, .string eX, .string eY, .slice iX dU.length iY, .slice iA dB.length gZ, .int .i64 dC, .slice fP aY.length fG] 42 (0, 0)) (aBx dK.out) k_ hn_))⟩)) (aAj bb_)); replace gW := am_ (Kd.aAs (rk_ gW.out) hb); replace dK := aAt dK hb; replace HB := bs_ hb; clear hb ho0) | ((with_reducible refine aAc (N := 11) rfl ?_); (try (refine aAn (by rfl) ?_; dsimp only)); refine bx_ 11 #[.int .i64 0, .slice none 0 0] 66 ?_; intro aCF hg w35 hbox hb; have aIF := am_ (hbox); have bR7 := gw_ hg; have EA := nl_ hg dK; have EW := ng_ hg dK; replace gW := am_ (Kd.aAs (rk_ gW.out) hb); replace IA := am_ (Kd.aDq (Kd.aEz (v3_ IA.out) aCF (Nat.le_of_eq hg.symm)) hb); replace dK := aAt dK hb; replace HB := bs_ hb; clear hb hbox hg; have c6H := EW.out; have cBB := EA.out; obtain ⟨bDM, bFA, bI9, bGP⟩ := b2_ aIF; obtain ⟨d4Q, d5F, bSJ⟩ := Kd.aGw IA.out; subst bSJ))
           go_ret
           exact ⟨er_, bb_⟩
          ·rw [if_neg c31] at H
           have aMK := decide_eq_false c31; clear c31; obtain rfl := Option.some.inj H
           go_wp2_with (first | ((with_reducible refine aAa (f := 33) rfl ?_); refine aBh (some 56) Tryz.func33 #[.slice A0 l0.length c0, .string bD] ?_; (with_reducible refine (gL.calls _ (fun k_ => k_ < w.heap.size) _ _ _ _ _ _ _ _ (Kd.aSp oQ.out (Kd.aEo (Kd.C_F AB jY.out) bb_)) A29.out).mono ?_); rintro e w34 ⟨c9O, rfl, ho0, hb⟩; refine ⟨_, rfl, ?_⟩; have IA := am_ (Kd.aGo (Kd.aEa (ok' := fun k_ => some k_ ≠ (.slice (some EF) iW.length aYV : Value).ownBlock ∧ k_ ≠ NE) ho0 (fun k_ hk_ => ⟨Or.elim hk_ (fun hs_ => fun e_ => Nat.not_le.2 hs_ (Kd.aCn gW.out k_ e_.symm)) (fun hn_ => (Kd.fresh' (Kd.aHf (rk_ gW.out)) k_ hn_)), Or.elim hk_ (fun hs_ => fun e_ => Nat.not_le.2 hs_ (by rw [e_]; exact b6Y.out)) (fun hn_ => (Kd.aKv (g := NE) (o := .cells #[.int .i64 aX, .string bD, .int .i64 bJ, .int .i64 bX, .int .i64 bY, .int .i64 bV, .string eX, .string eY, .slice iX dU.length iY, .slice iA dB.length gZ, .int .i64 dC, .slice fP aY.length fG] 42 (0, 0)) (aBx dK.out) k_ hn_))⟩)) (aAj bb_)); replace gW := am_ (Kd.aAs (rk_ gW.out) hb); replace dK := aAt dK hb; replace HB := bs_ hb; clear hb ho0) | ((with_reducible refine aAc (N := 11) rfl ?_); (try (refine aAn (by rfl) ?_; dsimp only)); refine bx_ 11 #[.int .i64 0, .slice none 0 0] 66 ?_; intro aCF hg w35 hbox hb; have aIF := am_ (hbox); have bR7 := gw_ hg; have EA := nl_ hg dK; have EW := ng_ hg dK; replace gW := am_ (Kd.aAs (rk_ gW.out) hb); replace IA := am_ (Kd.aDq (Kd.aEz (v3_ IA.out) aCF (Nat.le_of_eq hg.symm)) hb); replace dK := aAt dK hb; replace HB := bs_ hb; clear hb hbox hg; have c6H := EW.out; have cBB := EA.out; obtain ⟨bDM, bFA, bI9, bGP⟩ := b2_ aIF; obtain ⟨d4Q, d5F, bSJ⟩ := Kd.aGw IA.out; subst bSJ))
           go_ret
           exact ⟨er_, bb_⟩
         ·replace c30 := Bool.eq_false_iff.mpr c30
          subst c30; replace H := aZf H; obtain rfl := Option.some.inj H
          go_wp2_with (first | ((with_reducible refine aAa (f := 33) rfl ?_); refine aBh (some 56) Tryz.func33 #[.slice A0 l0.length c0, .string bD] ?_; (with_reducible refine (gL.calls _ (fun k_ => k_ < w.heap.size) _ _ _ _ _ _ _ _ (Kd.aSp oQ.out (Kd.aEo (Kd.C_F AB jY.out) bb_)) A29.out).mono ?_); rintro e w48 ⟨c9O, rfl, ho0, hb⟩; refine ⟨_, rfl, ?_⟩; have IA := am_ (Kd.aGo (Kd.aEa (ok' := fun k_ => some k_ ≠ (.slice (some EF) iW.length aYV : Value).ownBlock ∧ k_ ≠ NE) ho0 (fun k_ hk_ => ⟨Or.elim hk_ (fun hs_ => fun e_ => Nat.not_le.2 hs_ (Kd.aCn gW.out k_ e_.symm)) (fun hn_ => (Kd.fresh' (Kd.aHf (rk_ gW.out)) k_ hn_)), Or.elim hk_ (fun hs_ => fun e_ => Nat.not_le.2 hs_ (by rw [e_]; exact b6Y.out)) (fun hn_ => (Kd.aKv (g := NE) (o := .cells #[.int .i64 aX, .string bD, .int .i64 bJ, .int .i64 bX, .int .i64 bY, .int .i64 bV, .string eX, .string eY, .slice iX dU.length iY, .slice iA dB.length gZ, .int .i64 dC, .slice fP aY.length fG] 42 (0, 0)) (aBx dK.out) k_ hn_))⟩)) (aAj bb_)); replace gW := am_ (Kd.aAs (rk_ gW.out) hb); replace dK := aAt dK hb; replace HB := bs_ hb; clear hb ho0) | ((with_reducible refine aAc (N := 11) rfl ?_); (try (refine aAn (by rfl) ?_; dsimp only)); refine bx_ 11 #[.int .i64 0, .slice none 0 0] 66 ?_; intro aCF hg w49 hbox hb; have aIF := am_ (hbox); have bR7 := gw_ hg; have EA := nl_ hg dK; have EW := ng_ hg dK; replace gW := am_ (Kd.aAs (rk_ gW.out) hb); replace IA := am_ (Kd.aDq (Kd.aEz (v3_ IA.out) aCF (Nat.le_of_eq hg.symm)) hb); replace dK := aAt dK hb; replace HB := bs_ hb; clear hb hbox hg; have dAT := EW.out; have d82 := EA.out; obtain ⟨a5Q, a9L, a2B, a3K⟩ := b2_ aIF; obtain ⟨d2G, d5E, c0D⟩ := Kd.aGw IA.out; subst c0D))
          go_ret
          exact ⟨er_, bb_⟩
        ·rw [if_neg c28] at H
         have YS : (aX == 0) = false := beq_eq_false_iff_ne.mpr c28; have aBZ : (aX != 0) = true := bne_iff_ne.mpr c28
         by_cases c53 : aX = 1
         ·rw [if_pos c53] at H
          have c6B : (aX == 1) = true := beq_iff_eq.mpr c53; have cAH : (aX != 1) = false := bne_eq_false_iff_eq.mpr c53; clear c53; replace H := aBp H; obtain ⟨bUL, b9L, H⟩ := H
          try dsimp only at H
          have A54 := am_ b9L; clear b9L; have gY := am_ H; clear H
          try go_wp2
          replace gW := am_ (Kd.aBi gW.out); replace dK := am_ (aAz dK.out); replace HB := am_ (aAm HB.out); have bRG : 0 ≤ (0 : Int) := (by omega); (have c1L : 0 < (iW.length : Int) := oa_); obtain ⟨cAK, e304, X3⟩ := Kd.aCe (Kd.aAr gW.out).2.2 0 bRG c1L; obtain rfl : EF = cAK := (by injection e304); have dAJ : (0 < iW.length) = True := eq_true (by omega); (try rw [show ((0 : Int)).toNat = 0 from rfl] at X3); (try rw [Addr.add_zero'] at X3); replace bRG := eq_true bRG; replace c1L := eq_true c1L; (refine st_ 7 (aFh dK (hf_ X3)) (fun hHeld => ?_)); generalize wr.drew = w59 at gW dK HB X3 hHeld ⊢; refine aIl (i := 0) (N := some 64) (v := ?_) (a' := ?_) (tf 1 6) rfl rfl (by kernel_rfl) (fun _ _ _ h => h) (Or.inl ⟨by rfl, ?_⟩) ?_ ?_; rotate_left
          ·intro w'
           go_simp
           with_reducible rfl
          rotate_left
          ·simp only [Act.put, List.setIfInBounds_toArray, List.set_cons_zero, List.set_cons_succ, aCj, aCw]
           rfl
          refine aIl (i := 2) (N := some 66) (v := ?_) (a' := ?_) (bm 7 5) rfl rfl (by kernel_rfl) (fun _ _ _ h => h) (Or.inl ⟨by rfl, ?_⟩) ?_ ?_; rotate_left
          ·intro w'
           go_simp
           with_reducible rfl
          rotate_left
          ·simp only [Act.put, List.setIfInBounds_toArray, List.set_cons_zero, List.set_cons_succ, aCj, aCw]
           rfl
          refine aIl (i := 3) (N := some 67) (v := ?_) (a' := ?_) (bm 7 13) rfl rfl (by kernel_rfl) (fun _ _ _ h => h) (Or.inl ⟨by rfl, ?_⟩) ?_ ?_; rotate_left
          ·intro w'
           go_simp
           with_reducible rfl
          rotate_left
          ·simp only [Act.put, List.setIfInBounds_toArray, List.set_cons_zero, List.set_cons_succ, aCj, aCw]
           rfl
          refine aJy (i := 1) (N := some 65) (v := ?_) (a' := ?_) (tf 4 3) rfl rfl (by kernel_rfl) (fun _ _ _ h => h) (Or.inl ⟨by rfl, ?_⟩) hHeld ?_ ?_; rotate_left
          ·rintro w' ⟨s0, s1, s2, s3, s4, s5, s6, s7, s8, s9, s10, s11, s12⟩
           go_simp
           with_reducible rfl
          rotate_left
          ·simp only [Act.put, List.setIfInBounds_toArray, List.set_cons_zero, List.set_cons_succ, aCj, aCw]
           rfl
          refine aJy (i := 4) (N := some 68) (v := ?_) (a' := ?_) (tf 5 2) rfl rfl (by kernel_rfl) (fun _ _ _ h => h) (Or.inl ⟨by rfl, ?_⟩) hHeld ?_ ?_; rotate_left
          ·rintro w' ⟨s0, s1, s2, s3, s4, s5, s6, s7, s8, s9, s10, s11, s12⟩
           go_simp
           with_reducible rfl
          rotate_left
          ·simp only [Act.put, List.setIfInBounds_toArray, List.set_cons_zero, List.set_cons_succ, aCj, aCw]
           rfl
          refine aYa (i := 5) (N := some 69) (tf 6 1) rfl rfl (by kernel_rfl) (by decide) (fun K hK => ?_); refine gs_ Tryz.func48 #[.agg #[.int .i64 bJ, .int .i64 bX, .int .i64 bY, .int .i64 bV, .string eX, .string eY, .slice iX dU.length iY], .int .i64 (rd iW 0)] ?_; (with_reducible refine (jM.calls _ _ _ _ _ _ _ _ _ _ _ _ _ (cb_ rZ HB) rX.out A54.out).mono ?_); rintro e w60 ⟨rfl, hb⟩; have YW := (hb.cell (World.block_lt_of_cell? _ _ (hHeld.2.2.2.2.2.2.2.2.2.2.2.2))).trans (hHeld.2.2.2.2.2.2.2.2.2.2.2.2); refine ⟨_, rfl, ?_⟩; replace gW := am_ (Kd.aAs (rk_ gW.out) hb); replace dK := aAt dK hb; replace HB := bs_ hb; (try clear hb); refine hK.out _ _ (aFh dK (hf_ YW)) (fun hHeld => ?_); clear hK K; refine nm_ ?_; refine aIl (i := 6) (N := some 10) (v := ?_) (a' := ?_) (tf 7 0) rfl rfl (by kernel_rfl) (fun _ _ _ h => h) (Or.inl ⟨by rfl, ?_⟩) ?_ ?_; rotate_left
          ·intro w'
           go_simp
           with_reducible rfl
          rotate_left
          ·simp only [Act.put, List.setIfInBounds_toArray, List.set_cons_zero, List.set_cons_succ, aCj, aCw]
           rfl
          have H := gY.out; clear gY
          by_cases c55 : bUL = true
          ·subst c55
           rw [if_pos rfl] at H
           by_cases c56 : (rd iW 0) > 12
           ·rw [if_pos c56] at H
            have c5S := decide_eq_true c56; clear c56; obtain rfl := Option.some.inj H; refine aHl (by kernel_rfl) ?_
            try go_wp2
            go_ret
            exact ⟨er_, bb_⟩
           ·rw [if_neg c56] at H
            have c5S := decide_eq_false c56; clear c56; obtain rfl := Option.some.inj H; refine aHl (by kernel_rfl) ?_
            try go_wp2
            go_ret
            exact ⟨er_, bb_⟩
          ·replace c55 := Bool.eq_false_iff.mpr c55
           subst c55; replace H := aZf H; obtain rfl := Option.some.inj H; refine aHl (by kernel_rfl) ?_
           try go_wp2
           go_ret
           exact ⟨er_, bb_⟩
         ·rw [if_neg c53] at H
          have c6B : (aX == 1) = false := beq_eq_false_iff_ne.mpr c53; have cAH : (aX != 1) = true := bne_iff_ne.mpr c53
          by_cases c69 : aX = 2
          ·rw [if_pos c69] at H
           have c4C : (aX == 2) = true := beq_iff_eq.mpr c69; have cLO : (aX != 2) = false := bne_eq_false_iff_eq.mpr c69; clear c69; have gY := am_ H; clear H
           try go_wp2
           replace gW := am_ (Kd.aBi gW.out); replace dK := am_ (aAz dK.out); replace HB := am_ (aAm HB.out); have H := gY.out; clear gY
           by_cases c70 : (dB.length : Int) > 0
           ·rw [if_pos c70] at H
            have bAH := decide_eq_true c70; have b7P : decide (0 < dB.length) = true := decide_eq_true (by omega); clear c70; replace H := aBp H; obtain ⟨bTZ, b55, H⟩ := H
            try dsimp only at H
            have A71 := am_ b55; clear b55; have gY := am_ H; clear H; have bWE : 0 ≤ (0 : Int) := (by omega); (have bVT : 0 < (iW.length : Int) := oa_); obtain ⟨cBW, e306, WL⟩ := Kd.aCe (Kd.aAr gW.out).2.2 0 bWE bVT; obtain rfl : EF = cBW := (by injection e306); have d9E : (0 < iW.length) = True := eq_true (by omega); (try rw [show ((0 : Int)).toNat = 0 from rfl] at WL); (try rw [Addr.add_zero'] at WL); replace bWE := eq_true bWE; replace bVT := eq_true bVT; (refine st_ 17 (aFh dK (hf_ WL)) (fun hHeld => ?_); refine aAv aN.bQ6 aN.b8O (fun HT_ HW_ => ?_)); generalize wr.drew = w76 at gW dK HB WL hHeld ⊢; refine pl_ ?_; refine aBa 3 (bm 17 9) ?_; refine aCx 1 (bm 17 11) ?_; refine aBa 2 (tf 4 13) ?_; refine tl_ ?_
            iterate 4 (refine pl_ ?_)
            refine aBa 10 (bm 17 1535) ?_; refine aBa 11 (bm 17 3583) ?_; refine aCx 9 (tf 12 5) ?_; refine tl_ ?_; refine aCm (i := 13) (N := some 85) (tf 14 3) (h := fun K hK => ?_); refine gs_ Tryz.func49 #[.slice iA dB.length gZ, .int .i64 (rd iW 0)] ?_; (with_reducible refine (iP.calls _ _ _ _ _ _ _ (cb_ oP HB) oL.out A71.out).mono ?_); rintro e w77 ⟨rfl, hb⟩; have YW := (hb.cell (World.block_lt_of_cell? _ _ (hHeld.2.2.2.2.2.2.2.2.2.2.2.2))).trans (hHeld.2.2.2.2.2.2.2.2.2.2.2.2); refine ⟨_, rfl, ?_⟩; replace gW := am_ (Kd.aAs (rk_ gW.out) hb); replace dK := aAt dK hb; replace HB := bs_ hb; (try clear hb); refine hK.out _ _ (aFh dK (hf_ YW)) (fun hHeld => ?_); clear hK K; refine nm_ ?_; have H := gY.out; clear gY
            by_cases c72 : bTZ = true
            ·subst c72
             rw [if_pos rfl] at H
             by_cases c73 : (dB.length : Int) > 12
             ·rw [if_pos c73] at H
              have b7H := decide_eq_true c73; have b59 : decide (12 < dB.length) = true := decide_eq_true (by omega); clear c73; obtain rfl := Option.some.inj H; refine aBa 14 (tf 15 2) ?_
              iterate 2 (refine pl_ ?_)
              refine dn_ ?_
              try go_wp2
              go_ret
              exact ⟨er_, bb_⟩
             ·rw [if_neg c73] at H
              have b7H := decide_eq_false c73; have b59 : decide (12 < dB.length) = false := decide_eq_false (by omega); clear c73; obtain rfl := Option.some.inj H; refine aBa 14 (tf 15 2) ?_
              iterate 2 (refine pl_ ?_)
              refine dn_ ?_
              try go_wp2
              go_ret
              exact ⟨er_, bb_⟩
            ·replace c72 := Bool.eq_false_iff.mpr c72
             subst c72; replace H := aZf H; obtain rfl := Option.some.inj H; refine aBa 14 (tf 15 2) ?_
             iterate 2 (refine pl_ ?_)
             refine dn_ ?_
             try go_wp2
             go_ret
             exact ⟨er_, bb_⟩
           ·rw [if_neg c70] at H
            have bAH := decide_eq_false c70; have b7P : decide (0 < dB.length) = false := decide_eq_false (by omega); clear c70; obtain rfl := Option.some.inj H; (refine st_ 17 (aEm dK) (fun hHeld => ?_); refine aAv aN.bQ6 aN.b8O (fun HT_ HW_ => ?_)); generalize wr.drew = w88 at gW dK HB hHeld ⊢; refine pl_ ?_; refine aBa 3 (bm 17 9) ?_; refine aCx 1 (bm 17 11) ?_; refine aBa 2 (tf 4 13) ?_; refine tl_ ?_
            iterate 3 (refine pl_ ?_)
            iterate 6 (refine pd_ ?_)
            iterate 3 (refine pl_ ?_)
            refine dn_ ?_
            try go_wp2
            go_ret
            exact ⟨er_, bb_⟩
          ·rw [if_neg c69] at H
           have c4C : (aX == 2) = false := beq_eq_false_iff_ne.mpr c69; have cLO : (aX != 2) = true := bne_iff_ne.mpr c69
           by_cases c89 : aX = 3
           ·rw [if_pos c89] at H
            have cHH : (aX == 3) = true := beq_iff_eq.mpr c89; have cDJ : (aX != 3) = false := bne_eq_false_iff_eq.mpr c89; clear c89
            by_cases c90 : 1 < (iW.length : Int)
            ·rw [if_pos c90] at H
             have dA1 := decide_eq_true c90; have d9X : decide (1 < iW.length) = true := decide_eq_true (by omega); clear c90; replace H := aBp H; obtain ⟨bTY, c4P, H⟩ := H
             try dsimp only at H
             have A91 := am_ c4P; clear c4P; have gY := am_ H; clear H
             try go_wp2
             replace gW := am_ (Kd.aBi gW.out); replace dK := am_ (aAz dK.out); replace HB := am_ (aAm HB.out); have bV6 : 0 ≤ (0 : Int) := (by omega); (have bST : 0 < (iW.length : Int) := oa_); obtain ⟨cK0, e308, WF⟩ := Kd.aCe (Kd.aAr gW.out).2.2 0 bV6 bST; obtain rfl : EF = cK0 := (by injection e308); have d7L : (0 < iW.length) = True := eq_true (by omega); (try rw [show ((0 : Int)).toNat = 0 from rfl] at WF); (try rw [Addr.add_zero'] at WF); replace bV6 := eq_true bV6; replace bST := eq_true bST; have c2C : 0 ≤ (1 : Int) := (by omega); (have bZ3 : 1 < (iW.length : Int) := oa_); obtain ⟨cEB, e309, V4⟩ := Kd.aCe (Kd.aAr gW.out).2.2 1 c2C bZ3; obtain rfl : EF = cEB := (by injection e309); (try simp only [show (1 : Int).toNat = 1 from rfl, Nat.reduceMul, Nat.reduceEqDiff, Go.Addr.add, ↓reduceIte] at V4); have dAE : (1 < iW.length) = True := eq_true (by omega); (try rw [show ((1 : Int)).toNat = 1 from rfl] at V4); replace c2C := eq_true c2C; replace bZ3 := eq_true bZ3; have bRR : 0 ≤ (0 : Int) := (by omega); (have bY6 : 0 < (iW.length : Int) := oa_); obtain ⟨cHR, e310, XC⟩ := Kd.aCe (Kd.aAr gW.out).2.2 0 bRR bY6; obtain rfl : EF = cHR := (by injection e310); have dAG : (0 < iW.length) = True := eq_true (by omega); (try rw [show ((0 : Int)).toNat = 0 from rfl] at XC); (try rw [Addr.add_zero'] at XC); replace bRR := eq_true bRR; replace bY6 := eq_true bY6; have bYR : 0 ≤ (1 : Int) := (by omega); (have bZD : 1 < (iW.length : Int) := oa_); obtain ⟨cLG, e311, V5⟩ := Kd.aCe (Kd.aAr gW.out).2.2 1 bYR bZD; obtain rfl : EF = cLG := (by injection e311); (try simp only [show (1 : Int).toNat = 1 from rfl, Nat.reduceMul, Nat.reduceEqDiff, Go.Addr.add, ↓reduceIte] at V5); have d8E : (1 < iW.length) = True := eq_true (by omega); (try rw [show ((1 : Int)).toNat = 1 from rfl] at V5); replace bYR := eq_true bYR; replace bZD := eq_true bZD; (refine st_ 19 (aFh dK (hc_ WF (hc_ V4 (hc_ XC (hf_ V5))))) (fun hHeld => ?_); refine aAv aN.c7U aN.bW4 (fun HT_ HW_ => ?_)); generalize wr.drew = w96 at gW dK HB WF V4 XC V5 hHeld ⊢
             iterate 2 (refine pl_ ?_)
             refine aBa 3 (bm 19 11) ?_; refine aBa 4 (bm 19 27) ?_; refine aBa 7 (bm 19 155) ?_; refine aBa 9 (bm 19 667) ?_; refine aBa 10 (bm 19 1691) ?_; refine aBa 12 (bm 19 5787) ?_; refine aBa 13 (bm 19 13979) ?_; refine aCx 2 (bm 19 13983) ?_; refine aCx 5 (bm 19 14015) ?_; refine aBa 6 (bm 19 14079) ?_; refine aCx 8 (bm 19 14335) ?_; refine aCx 11 (tf 14 5) ?_; refine tl_ ?_; refine pl_ ?_; refine aCm (i := 16) (N := some 105) (tf 17 2) (h := fun K hK => ?_); refine gs_ Tryz.func48 #[.agg #[.int .i64 bJ, .int .i64 bX, .int .i64 bY, .int .i64 bV, .string eX, .string eY, .slice iX dU.length iY], .int .i64 (wrap64 ((rd iW 0) + (rd iW 1)))] ?_; (with_reducible refine (jM.calls _ _ _ _ _ _ _ _ _ _ _ _ _ (cb_ rZ HB) rX.out A91.out).mono ?_); rintro e w97 ⟨rfl, hb⟩; have YW := (hb.cell (World.block_lt_of_cell? _ _ (hHeld.2.2.2.2.2.2.2.2.2.2.2.2.1))).trans (hHeld.2.2.2.2.2.2.2.2.2.2.2.2.1); have b2J := (hb.cell (World.block_lt_of_cell? _ _ (hHeld.2.2.2.2.2.2.2.2.2.2.2.2.2.1))).trans (hHeld.2.2.2.2.2.2.2.2.2.2.2.2.2.1); have QO := (hb.cell (World.block_lt_of_cell? _ _ (hHeld.2.2.2.2.2.2.2.2.2.2.2.2.2.2.1))).trans (hHeld.2.2.2.2.2.2.2.2.2.2.2.2.2.2.1); have aGZ := (hb.cell (World.block_lt_of_cell? _ _ (hHeld.2.2.2.2.2.2.2.2.2.2.2.2.2.2.2))).trans (hHeld.2.2.2.2.2.2.2.2.2.2.2.2.2.2.2); refine ⟨_, rfl, ?_⟩; replace gW := am_ (Kd.aAs (rk_ gW.out) hb); replace dK := aAt dK hb; replace HB := bs_ hb; (try clear hb); refine hK.out _ _ (aFh dK (hc_ YW (hc_ b2J (hc_ QO (hf_ aGZ))))) (fun hHeld => ?_); clear hK K; refine nm_ ?_; have H := gY.out; clear gY
             by_cases c92 : bTY = true
             ·subst c92
              rw [if_pos rfl] at H
              by_cases c93 : (wrap64 ((rd iW 0) + (rd iW 1))) > 12
              ·rw [if_pos c93] at H
               have cLF := decide_eq_true c93; clear c93; obtain rfl := Option.some.inj H; refine aBa 17 (tf 18 1) ?_; refine pl_ ?_; refine dn_ ?_
               try go_wp2
               go_ret
               exact ⟨er_, bb_⟩
              ·rw [if_neg c93] at H
               have cLF := decide_eq_false c93; clear c93; obtain rfl := Option.some.inj H; refine aBa 17 (tf 18 1) ?_; refine pl_ ?_; refine dn_ ?_
               try go_wp2
               go_ret
               exact ⟨er_, bb_⟩
             ·replace c92 := Bool.eq_false_iff.mpr c92
              subst c92; replace H := aZf H; obtain rfl := Option.some.inj H; refine aBa 17 (tf 18 1) ?_; refine pl_ ?_; refine dn_ ?_
              try go_wp2
              go_ret
              exact ⟨er_, bb_⟩
            ·rw [if_neg c90] at H
             exact nn_ H
           ·rw [if_neg c89] at H
            have cHH : (aX == 3) = false := beq_eq_false_iff_ne.mpr c89; have cDJ : (aX != 3) = true := bne_iff_ne.mpr c89
            by_cases NQ : aX = 4
            ·rw [if_pos NQ] at H
             have aJM : (aX == 4) = true := beq_iff_eq.mpr NQ; have aIS : (aX != 4) = false := bne_eq_false_iff_eq.mpr NQ; clear NQ
             by_cases c107 : 1 < (iW.length : Int)
             ·rw [if_pos c107] at H
              have bW6 := decide_eq_true c107; have bWV : decide (1 < iW.length) = true := decide_eq_true (by omega); clear c107; have gY := am_ H; clear H
              try go_wp2
              replace gW := am_ (Kd.aBi gW.out); replace dK := am_ (aAz dK.out); replace HB := am_ (aAm HB.out); have c0X : 0 ≤ (0 : Int) := (by omega); (have bRH : 0 < (iW.length : Int) := oa_); obtain ⟨cHC, e313, UJ⟩ := Kd.aCe (Kd.aAr gW.out).2.2 0 c0X bRH; obtain rfl : EF = cHC := (by injection e313); have d8F : (0 < iW.length) = True := eq_true (by omega); (try rw [show ((0 : Int)).toNat = 0 from rfl] at UJ); (try rw [Addr.add_zero'] at UJ); replace c0X := eq_true c0X; replace bRH := eq_true bRH; have bUV : 0 ≤ (1 : Int) := (by omega); (have bV1 : 1 < (iW.length : Int) := oa_); obtain ⟨c4R, e314, WV⟩ := Kd.aCe (Kd.aAr gW.out).2.2 1 bUV bV1; obtain rfl : EF = c4R := (by injection e314); (try simp only [show (1 : Int).toNat = 1 from rfl, Nat.reduceMul, Nat.reduceEqDiff, Go.Addr.add, ↓reduceIte] at WV); have dB4 : (1 < iW.length) = True := eq_true (by omega); (try rw [show ((1 : Int)).toNat = 1 from rfl] at WV); replace bUV := eq_true bUV; replace bV1 := eq_true bV1; (refine st_ 8 (hc_ UJ (hf_ WV)) (fun hHeld => ?_); refine aAv aN.c8W aN.bVA (fun HT_ HW_ => ?_)); generalize wr.drew = d6D at gW dK HB UJ WV hHeld ⊢; have H := gY.out; clear gY
              by_cases aJV : ((rd iW 0) = (rd iW 1))
              ·rw [if_pos aJV] at H
               have bRV : ((rd iW 0) == (rd iW 1)) = true := beq_iff_eq.mpr aJV; have bVC : ((rd iW 0) != (rd iW 1)) = false := bne_eq_false_iff_eq.mpr aJV; clear aJV
               by_cases c109 : (rd iW 0) > 12
               ·rw [if_pos c109] at H
                have bYS := decide_eq_true c109; clear c109; obtain rfl := Option.some.inj H
                iterate 2 (refine pl_ ?_)
                refine aBa 3 (bm 8 11) ?_; refine aBa 4 (bm 8 27) ?_; refine aCx 2 (tf 5 3) ?_; refine tl_ ?_
                iterate 2 (refine pl_ ?_)
                refine dn_ ?_
                try go_wp2
                go_ret
                exact ⟨er_, bb_⟩
               ·rw [if_neg c109] at H
                have bYS := decide_eq_false c109; clear c109; obtain rfl := Option.some.inj H
                iterate 2 (refine pl_ ?_)
                refine aBa 3 (bm 8 11) ?_; refine aBa 4 (bm 8 27) ?_; refine aCx 2 (tf 5 3) ?_; refine tl_ ?_
                iterate 2 (refine pl_ ?_)
                refine dn_ ?_
                try go_wp2
                go_ret
                exact ⟨er_, bb_⟩
              ·rw [if_neg aJV] at H
               have bRV : ((rd iW 0) == (rd iW 1)) = false := beq_eq_false_iff_ne.mpr aJV; have bVC : ((rd iW 0) != (rd iW 1)) = true := bne_iff_ne.mpr aJV; obtain rfl := Option.some.inj H
               iterate 2 (refine pl_ ?_)
               refine aBa 3 (bm 8 11) ?_; refine aBa 4 (bm 8 27) ?_; refine aCx 2 (tf 5 3) ?_; refine tl_ ?_
               iterate 2 (refine pl_ ?_)
               refine dn_ ?_
               try go_wp2
               go_ret
               exact ⟨er_, bb_⟩
             ·rw [if_neg c107] at H
              exact nn_ H
            ·rw [if_neg NQ] at H
             have aJM : (aX == 4) = false := beq_eq_false_iff_ne.mpr NQ; have aIS : (aX != 4) = true := bne_iff_ne.mpr NQ
             by_cases c119 : aX = 6
             ·rw [if_pos c119] at H
              have bYY : (aX == 6) = true := beq_iff_eq.mpr c119; have bZT : (aX != 6) = false := bne_eq_false_iff_eq.mpr c119; clear c119; replace H := aBp H; obtain ⟨bZF, bOP, H⟩ := H
              try dsimp only at H
              have HY := am_ bOP; clear bOP; have gY := am_ H; clear H
              try go_wp2
              replace gW := am_ (Kd.aBi gW.out); replace dK := am_ (aAz dK.out); replace HB := am_ (aAm HB.out); have bT0 : 0 ≤ (0 : Int) := (by omega); (have bXF : 0 < (iW.length : Int) := oa_); obtain ⟨c94, e315, CF⟩ := Kd.aCe (Kd.aAr gW.out).2.2 0 bT0 bXF; obtain rfl : EF = c94 := (by injection e315); have d7H : (0 < iW.length) = True := eq_true (by omega); (try rw [show ((0 : Int)).toNat = 0 from rfl] at CF); (try rw [Addr.add_zero'] at CF); replace bT0 := eq_true bT0; replace bXF := eq_true bXF; have H := gY.out; clear gY
              by_cases bHG : bZF = true
              ·subst bHG
               rw [if_pos rfl] at H
               by_cases aYT : (dB.length : Int) ≤ 1
               ·rw [if_pos aYT] at H
                have bZW := decide_eq_true aYT; have bYT : decide (dB.length ≤ 1) = true := decide_eq_true (by omega); clear aYT; replace H := aBp H; obtain ⟨bS7, bPT, H⟩ := H
                try dsimp only at H
                have d7C := am_ bPT; clear bPT; have gY := am_ H; clear H; have bSV : 0 ≤ (0 : Int) := (by omega); (have bZY : 0 < (iW.length : Int) := oa_); obtain ⟨cGG, e317, V3⟩ := Kd.aCe (Kd.aAr gW.out).2.2 0 bSV bZY; obtain rfl : EF = cGG := (by injection e317); have d9O : (0 < iW.length) = True := eq_true (by omega); (try rw [show ((0 : Int)).toNat = 0 from rfl] at V3); (try rw [Addr.add_zero'] at V3); replace bSV := eq_true bSV; replace bZY := eq_true bZY; (refine st_ 29 (aFh dK (hc_ CF (hf_ V3))) (fun hHeld => ?_); refine aAv aN.b0M aN.aJ7 (fun HT_ HW_ => ?_)); generalize wr.drew = dCL at gW dK HB CF V3 hHeld ⊢; refine pl_ ?_; refine aBa 3 (bm 29 9) ?_; refine aBa 7 (bm 29 137) ?_; refine aBa 9 (bm 29 649) ?_; refine aBa 10 (bm 29 1673) ?_; refine aCx 1 (bm 29 1675) ?_; refine aBa 2 (bm 29 1679) ?_; refine aCx 4 (bm 29 1695) ?_; refine aBa 5 (bm 29 1727) ?_; refine aBa 6 (bm 29 1791) ?_; refine aCx 8 (tf 11 18) ?_; refine tl_ ?_; refine aCm (i := 12) (N := some 129) (tf 13 16) (h := fun K hK => ?_); refine gs_ Tryz.func50 #[.int .i64 dC, .int .i64 0, .int .i64 (rd iW 0)] ?_; (with_reducible refine (bN.calls _ _ _ _ _ HY.out).mono ?_)
                rintro e w' ⟨rfl, ⟨nd, rfl⟩⟩; refine ⟨_, rfl, ?_⟩; refine hK.out _ _ (aFh dK (hc_ (hHeld.2.2.2.2.2.2.2.2.2.2.2.2.1) (hf_ (hHeld.2.2.2.2.2.2.2.2.2.2.2.2.2)))) (fun hHeld => ?_); clear hK K; refine nm_ ?_; refine aBa 13 (tf 14 15) ?_; refine pl_ ?_; refine tl_ ?_
                iterate 5 (refine pl_ ?_)
                refine aBa 22 (bm 29 6291455) ?_; refine aBa 23 (bm 29 14680063) ?_; refine aCx 21 (tf 24 5) ?_; refine tl_ ?_; refine aCm (i := 25) (N := some 142) (tf 26 3) (h := fun K hK => ?_); refine gs_ Tryz.func49 #[.slice iA dB.length gZ, .int .i64 (rd iW 0)] ?_; (with_reducible refine (iP.calls _ _ _ _ _ _ _ (ck_ (Kd.aAp oP.out bb_)) oL.out d7C.out).mono ?_); rintro e dDD ⟨rfl, hb⟩; have YW := (hb.cell (World.block_lt_of_cell? _ _ (hHeld.2.2.2.2.2.2.2.2.2.2.2.2.1))).trans (hHeld.2.2.2.2.2.2.2.2.2.2.2.2.1); have b2J := (hb.cell (World.block_lt_of_cell? _ _ (hHeld.2.2.2.2.2.2.2.2.2.2.2.2.2))).trans (hHeld.2.2.2.2.2.2.2.2.2.2.2.2.2); refine ⟨_, rfl, ?_⟩; replace gW := am_ (Kd.aAs (rk_ gW.out) hb); replace dK := aAt dK hb; replace HB := bs_ hb; (try clear hb); refine hK.out _ _ (aFh dK (hc_ YW (hf_ b2J))) (fun hHeld => ?_); clear hK K; refine nm_ ?_; have H := gY.out; clear gY
                by_cases c124 : bS7 = true
                ·subst c124
                 rw [if_pos rfl] at H
                 by_cases aZV : (wrap64 ((wrap64 (dC + 1)) + (dB.length : Int))) > 12
                 ·rw [if_pos aZV] at H
                  have bS3 := decide_eq_true aZV; clear aZV; obtain rfl := Option.some.inj H; refine aBa 26 (tf 27 2) ?_
                  iterate 2 (refine pl_ ?_)
                  refine dn_ ?_
                  try go_wp2
                  go_ret
                  exact ⟨er_, bb_⟩
                 ·rw [if_neg aZV] at H
                  have bS3 := decide_eq_false aZV; clear aZV; obtain rfl := Option.some.inj H; refine aBa 26 (tf 27 2) ?_
                  iterate 2 (refine pl_ ?_)
                  refine dn_ ?_
                  try go_wp2
                  go_ret
                  exact ⟨er_, bb_⟩
                ·replace c124 := Bool.eq_false_iff.mpr c124
                 subst c124; replace H := aZf H; obtain rfl := Option.some.inj H; refine aBa 26 (tf 27 2) ?_
                 iterate 2 (refine pl_ ?_)
                 refine dn_ ?_
                 try go_wp2
                 go_ret
                 exact ⟨er_, bb_⟩
               ·rw [if_neg aYT] at H
                have bZW := decide_eq_false aYT; have bYT : decide (dB.length ≤ 1) = false := decide_eq_false (by omega); clear aYT; obtain rfl := Option.some.inj H; (refine st_ 29 (aFh dK (hf_ CF)) (fun hHeld => ?_); refine aAv aN.b0M aN.aJ7 (fun HT_ HW_ => ?_)); generalize wr.drew = dBW at gW dK HB CF hHeld ⊢; refine pl_ ?_; refine aBa 3 (bm 29 9) ?_; refine aBa 7 (bm 29 137) ?_; refine aBa 9 (bm 29 649) ?_; refine aBa 10 (bm 29 1673) ?_; refine aCx 1 (bm 29 1675) ?_; refine aBa 2 (bm 29 1679) ?_; refine aCx 4 (bm 29 1695) ?_; refine aBa 5 (bm 29 1727) ?_; refine aBa 6 (bm 29 1791) ?_; refine aCx 8 (tf 11 18) ?_; refine tl_ ?_; refine aCm (i := 12) (N := some 129) (tf 13 16) (h := fun K hK => ?_); refine gs_ Tryz.func50 #[.int .i64 dC, .int .i64 0, .int .i64 (rd iW 0)] ?_; (with_reducible refine (bN.calls _ _ _ _ _ HY.out).mono ?_); rintro e w' ⟨rfl, ⟨nd, rfl⟩⟩; refine ⟨_, rfl, ?_⟩; refine hK.out _ _ (aFh dK (hf_ (hHeld.2.2.2.2.2.2.2.2.2.2.2.2))) (fun hHeld => ?_); clear hK K; refine nm_ ?_; refine aBa 13 (tf 14 15) ?_; refine pl_ ?_; refine tl_ ?_
                iterate 4 (refine pl_ ?_)
                iterate 6 (refine pd_ ?_)
                iterate 3 (refine pl_ ?_)
                refine dn_ ?_
                try go_wp2
                go_ret
                exact ⟨er_, bb_⟩
              ·replace bHG := Bool.eq_false_iff.mpr bHG
               subst bHG; replace H := aZf H; obtain rfl := Option.some.inj H; (refine st_ 29 (aFh dK (hf_ CF)) (fun hHeld => ?_); refine aAv aN.b0M aN.aJ7 (fun HT_ HW_ => ?_)); generalize wr.drew = bS9 at gW dK HB CF hHeld ⊢; refine pl_ ?_; refine aBa 3 (bm 29 9) ?_; refine aBa 7 (bm 29 137) ?_; refine aBa 9 (bm 29 649) ?_; refine aBa 10 (bm 29 1673) ?_; refine aCx 1 (bm 29 1675) ?_; refine aBa 2 (bm 29 1679) ?_; refine aCx 4 (bm 29 1695) ?_; refine aBa 5 (bm 29 1727) ?_; refine aBa 6 (bm 29 1791) ?_; refine aCx 8 (tf 11 18) ?_; refine tl_ ?_; refine aCm (i := 12) (N := some 129) (tf 13 16) (h := fun K hK => ?_); refine gs_ Tryz.func50 #[.int .i64 dC, .int .i64 0, .int .i64 (rd iW 0)] ?_; (with_reducible refine (bN.calls _ _ _ _ _ HY.out).mono ?_); rintro e w' ⟨rfl, ⟨nd, rfl⟩⟩; refine ⟨_, rfl, ?_⟩; refine hK.out _ _ (aFh dK (hf_ (hHeld.2.2.2.2.2.2.2.2.2.2.2.2))) (fun hHeld => ?_); clear hK K; refine nm_ ?_; refine aBa 13 (tf 14 15) ?_
               iterate 4 (refine pd_ ?_)
               iterate 2 (refine pl_ ?_)
               iterate 6 (refine pd_ ?_)
               iterate 3 (refine pl_ ?_)
               refine dn_ ?_
               try go_wp2
               go_ret
               exact ⟨er_, bb_⟩
             ·rw [if_neg c119] at H
              have bYY : (aX == 6) = false := beq_eq_false_iff_ne.mpr c119; have bZT : (aX != 6) = true := bne_iff_ne.mpr c119
              by_cases aZL : (rd iW 0) > 12
              ·rw [if_pos aZL] at H
               have bS8 := decide_eq_true aZL; clear aZL; obtain rfl := Option.some.inj H
               go_wp2
               go_ret
               exact ⟨er_, bb_⟩
              ·rw [if_neg aZL] at H
               have bS8 := decide_eq_false aZL; clear aZL; obtain rfl := Option.some.inj H
               go_wp2
               go_ret
               exact ⟨er_, bb_⟩
       ·rw [if_neg fV] at H
        exact nn_ H
end Go.Proofs.YtnobhkmpkichdaaGreat.PFnExactViewsOk
