import Derived.Test.YtnobhkmpkichdaaGreatPress5
import Derived.Test.YtnobhkmpkichdaaGreatPFnExactViewsOkx1
namespace Go.Proofs.YtnobhkmpkichdaaGreat.PFnExactViewsOk
open Go.RowKit YtnobhkmpkichdaaGreatW.PrintWords YtnobhkmpkichdaaGreatW.PrintLast YtnobhkmpkichdaaGreatW.PrintMore
attribute [local go_sem] aDf aDi aEf aEe aCs aCt aDh aDg
set_option linter.unusedVariables false
set_option maxHeartbeats 8000000
set_option maxRecDepth 100000
set_option linter.unusedSimpArgs false
attribute [local go_sem] aQv aSa
def eQ.l0 (E_ : Int → Int → Int → Int → ByteArray → ByteArray → (List S27) → Option (Int × Int × Int × Int × ByteArray × ByteArray × (List S39))) : Nat → List S27 → List S39 → Int → Option ((List S39))
 | 0, _, _, _ => none
 | k + 1, x0, x3, x4 => if x4 < (x0.length : Int) then (if 0 ≤ x4 then ((E_ ((dH x0 x4).f0) ((dH x0 x4).f1) ((dH x0 x4).f2.f0) ((dH x0 x4).f2.f1) ((dH x0 x4).f2.f2) ((dH x0 x4).f3) ((dH x0 x4).f4)).bind fun ZM => (if x4 < (x3.length : Int) then (eQ.l0 E_ k x0 (x3.set (x4 : Int).toNat (⟨ZM.1, ZM.2.1, (⟨ZM.2.2.1, ZM.2.2.2.1, ZM.2.2.2.2.1⟩ : S36), ZM.2.2.2.2.2.1, ZM.2.2.2.2.2.2⟩ : S39)) (wrap64 (x4 + 1))) else (none))) else (none)) else (some x3)
def eQ.f (E_ : Int → Int → Int → Int → ByteArray → ByteArray → (List S27) → Option (Int × Int × Int × Int × ByteArray × ByteArray × (List S39))) (k : Nat) (l0 : List S27) : Option ((List S39)) := if 0 ≤ (l0.length : Int) then (if ((l0.length : Int) : Int).toNat ≤ 3198579280802 then (eQ.l0 E_ k l0 (List.replicate ((l0.length : Int) : Int).toNat z39) 0) else (none)) else (none)
theorem eQ.calls (E_ : Int → Int → Int → Int → ByteArray → ByteArray → (List S27) → Option (Int × Int × Int × Int × ByteArray × ByteArray × (List S39))) (UC : ∀ (aA aD : Int) (aH aK : Int) (aJ aI : ByteArray) (dY : Option Addr) (dR : Nat) (aQ : List S27) (r1 r2 : Int) (r3 r4 : Int) (r5 r6 : ByteArray) (r7 : List S39) (w : World) (gH : Kd.C k27 w dY aQ.length aQ) (gI : aQ.length ≤ dR) (h : E_ aA aD aH aK aJ aI aQ = some (r1, r2, r3, r4, r5, r6, r7)), Calls Tryz.prog 24 #[.agg #[.int .i64 aA, .int .i64 aD, .int .i64 aH, .int .i64 aK, .string aJ, .string aI, .slice dY aQ.length dR]] w fun e w' => ∃ v6_ : Value, e = .returned (.agg #[.int .i64 r1, .int .i64 r2, .int .i64 r3, .int .i64 r4, .string r5, .string r6, v6_]) ∧ Kd.R jX 39 w' w.heap.size (fun _ => True) v6_ r7 ∧ Below w.heap.size w w') (k : Nat) (A0 : Option Addr) (c0 : Nat) (l0 : List S27) (r : List S39) (w : World) (hr0 : Kd.C k27 w A0 l0.length l0) (hc0 : l0.length ≤ c0) (h : eQ.f E_ k l0 = some r) :
  Calls Tryz.prog 25 #[.slice A0 l0.length c0] w fun e w' => ∃ I7 : Value, e = .returned (I7) ∧ Kd.R jX 39 w' w.heap.size (fun _ => True) I7 r ∧ Below w.heap.size w w' := by
 obtain ⟨b2D, zH⟩ := cDL
 have jY := am_ hr0
 have oQ := am_ hc0
 clear hr0 hc0
 have HB := am_ (Below.refl w.heap.size w)
 have H : (if 0 ≤ (l0.length : Int) then (if ((l0.length : Int) : Int).toNat ≤ 3198579280802 then (eQ.l0 E_ k l0 (List.replicate ((l0.length : Int) : Int).toNat z39) 0) else (none)) else (none)) = some r := h
 clear h
 by_cases c2 : 0 ≤ (l0.length : Int)
 ·rw [if_pos c2] at H
  have qD := eq_true c2; have JA := decide_eq_true c2; clear c2
  by_cases c3 : ((l0.length : Int) : Int).toNat ≤ 3198579280802
  ·rw [if_pos c3] at H
   have fC := eq_true c3; have lI := decide_eq_true c3; clear c3; obtain ⟨c3S, aEH⟩ : ∃ y_ : List S39, y_ = (List.replicate ((l0.length : Int) : Int).toNat z39) := ⟨_, rfl⟩; (replace H : (eQ.l0 E_ k l0 c3S 0) = some r := by first | (rw [aEH]; with_reducible exact H) | (have jC := (Option.bind_some _ _).symm.trans H; rw [aEH]; with_reducible exact jC) | (have jC := (Option.bind_some _ _).symm.trans H; with_reducible exact jC) | with_reducible exact H | (rw [aEH]; exact H) | exact H); have bQA := am_ aEH; clear aEH; have H' := am_ H; clear H
   go_enter Tryz.func25, Tryz.ntmps25
   go_wp2_with (first | ((with_reducible refine aAc (N := 7) rfl ?_); refine Kd.aKq jX _ 39 rfl (N := 7) rfl 37 _ _ rfl (l0.length : Int) rfl rfl Tryz.underlying37 (.agg #[(.int .i64 0), (.int .i64 0), (.int .i64 0), (.int .i64 0), (.string ⟨#[]⟩), (.string ⟨#[]⟩), (.slice none 0 0)]) 88 bWQ rfl (by decide) (by omega) z39 (ok := fun _ => True) (okp := fun _ => True) (aAB _ _ _ z39 (Kd.aFr _ _ _ _ _)) (fun _ hk => hk) trivial (oa_) (Nat.le_trans (Nat.mul_le_mul_right _ (oa_ : (l0.length : Int).toNat ≤ 3198579280802)) (by omega)) (Below.refl _ _) (Nat.le_refl _) ?_; intro d2R w4 EY hb DZ j4; clear DZ j4; (first | rw [← bQA.out] at EY | (simp only [Int.reduceToNat] at EY; rw [← bQA.out] at EY)); have cHM := am_ (Kd.aBc EY (aAj bb_)); replace HB := bs_ hb; clear hb EY))
   go_loopg [4] k (fun kq v4 w' => ∃ (bA : List S39) (aT : Int), v4 = .int .i64 aT ∧ Aside0 (eQ.l0 E_ kq l0 bA aT = some r) ∧ Aside0 (kq ≤ k) ∧ Aside0 (Kd.R jX 39 w' w.heap.size (fun _ => True) d2R bA) ∧ Aside0 (Below w.heap.size w w'))
   case atStart => exact ⟨(c3S), (0), rs_, H', ⟨Nat.le_refl _⟩, ⟨by (with_reducible repeat (first | apply Kd.aBf | apply Kd.aBg | apply Kd.aBi)); exact cHM.out⟩, ⟨bb_⟩⟩
   case round =>
    clear H'; (try clear c2); (try clear qD); (try clear JA); (try clear p2); (try clear c3); (try clear fC); (try clear lI); obtain ⟨bA, aT, rfl, HA, jK, dS, HB⟩ := hrel
    cases gk with
    | zero => exact absurd HA.out (by simp [eQ.l0])
    | succ k1 =>
     have H := HA.out; clear HA; simp only [eQ.l0] at H
     by_cases c6 : aT < (l0.length : Int)
     ·rw [if_pos c6] at H
      have mY := decide_eq_true c6; clear c6
      by_cases c7 : 0 ≤ aT
      ·rw [if_pos c7] at H
       have iV := decide_eq_true c7; clear c7; replace H := aBp H; obtain ⟨⟨aZ6, aYQ, aYO, b06, aZA, aZR, aJG⟩, RY, H⟩ := H
       try dsimp only at H
       have A8 := am_ RY; clear RY
       by_cases c9 : aT < (bA.length : Int)
       ·rw [if_pos c9] at H
        have xC := decide_eq_true c9; clear c9; obtain ⟨bT6, aI0⟩ : ∃ y_ : List S39, y_ = (bA.set (aT : Int).toNat (⟨aZ6, aYQ, (⟨aYO, b06, aZA⟩ : S36), aZR, aJG⟩ : S39)) := ⟨_, rfl⟩; (replace H : (eQ.l0 E_ k1 l0 bT6 (wrap64 (aT + 1))) = some r := by first | (rw [aI0]; with_reducible exact H) | (have jC := (Option.bind_some _ _).symm.trans H; rw [aI0]; with_reducible exact jC) | (have jC := (Option.bind_some _ _).symm.trans H; with_reducible exact jC) | with_reducible exact H | (rw [aI0]; exact H) | exact H); have cK9 := am_ aI0; clear aI0; have H' := am_ H; clear H; (have bUP : 0 ≤ (aT : Int) := oa_); (have bXZ : aT < (l0.length : Int) := oa_); obtain ⟨d9Q, bUI, c02, d4O, aNR, aVF, aS3, aT8, aQ0, aMU, aK6, aLT, aOA⟩ := b4F jY.out aT bUP bXZ; cases d4O; obtain ⟨aNR, aVF, aS3, aT8, aQ0, aMU, aK6⟩ := aSm HB aNR aVF aS3 aT8 aQ0 aMU aK6; have bFB := am_ aOA; have bJN := am_ aLT; clear aOA aLT; replace bUP := eq_true bUP; replace bXZ := eq_true bXZ
        go_wp2_with (first | ((with_reducible refine aAa (f := 24) rfl ?_); refine aBh (some 20) Tryz.func24 #[.agg #[.int .i64 ((dH l0 aT).f0), .int .i64 ((dH l0 aT).f1), .int .i64 ((dH l0 aT).f2.f0), .int .i64 ((dH l0 aT).f2.f1), .string ((dH l0 aT).f2.f2), .string ((dH l0 aT).f3), .slice bUI ((dH l0 aT).f4).length c02]] ?_; (with_reducible refine (UC ((dH l0 aT).f0) ((dH l0 aT).f1) ((dH l0 aT).f2.f0) ((dH l0 aT).f2.f1) ((dH l0 aT).f2.f2) ((dH l0 aT).f3) _ _ ((dH l0 aT).f4) aZ6 aYQ aYO b06 aZA aZR aJG _ ?fM ?fO A8.out).mono ?_); (case fM => exact cb_ bFB HB); (case fO => exact bJN.out); rintro e jI ⟨dD8, rfl, ho0, hb⟩; refine ⟨_, rfl, ?_⟩; have b3Y := am_ (Kd.aBc (Kd.aDv ho0 (Kd.aHf (rk_ dS.out))) (aAj bb_)); replace dS := am_ (Kd.aCi (rk_ dS.out) (Kd.aCn ho0) hb); replace HB := bs_ hb; clear hb ho0; have ZQ : 0 ≤ (aT : Int) := oa_; have ZC : (aT : Int) < ((bA.length : Int) : Int) := oa_; obtain ⟨cO, DY, DX, JK, Y4, b5P, JC⟩ := Kd.aIf dS.out (by omega); (first | cases DX | (injection DX with rW SI TD; (first | subst rW | (injection rW with rW; subst rW)); subst TD; clear SI)); have lC := am_ JK; have b2H := am_ JC; clear JK Y4 JC; obtain ⟨b52, J3, IE, gP, gM⟩ := Kd.aFv dS.out z39 (aT : Int) ZQ ZC; obtain ⟨bSD, rfl, d4K⟩ := TL IE; have YJ : jI.cell? ⟨cO, (aT : Int).toNat * 7, none⟩ = some (.int .i64 ((aAh bA aT).f0)) := gP 0 _ rfl; have Y2 : jI.cell? ⟨cO, (aT : Int).toNat * 7 + 1, none⟩ = some (.int .i64 ((aAh bA aT).f1)) := gP 1 _ rfl; have a6P : jI.cell? ⟨cO, (aT : Int).toNat * 7 + 2, none⟩ = some (.int .i64 ((aAh bA aT).f2.f0)) := gP 2 _ rfl; have b2Z : jI.cell? ⟨cO, (aT : Int).toNat * 7 + 3, none⟩ = some (.int .i64 ((aAh bA aT).f2.f1)) := gP 3 _ rfl; have b5C : jI.cell? ⟨cO, (aT : Int).toNat * 7 + 4, none⟩ = some (.string ((aAh bA aT).f2.f2)) := gP 4 _ rfl; have b9E : jI.cell? ⟨cO, (aT : Int).toNat * 7 + 5, none⟩ = some (.string ((aAh bA aT).f3)) := gP 5 _ rfl; have b0P : jI.cell? ⟨cO, (aT : Int).toNat * 7 + 6, none⟩ = some (bSD) := gP 6 _ rfl; have XT : jI.frozen? ⟨cO, (aT : Int).toNat * 7, none⟩ = false := gM 0; have YN : jI.frozen? ⟨cO, (aT : Int).toNat * 7 + 1, none⟩ = false := gM 1; have aAU : jI.frozen? ⟨cO, (aT : Int).toNat * 7 + 2, none⟩ = false := gM 2; have b4N : jI.frozen? ⟨cO, (aT : Int).toNat * 7 + 3, none⟩ = false := gM 3; have b47 : jI.frozen? ⟨cO, (aT : Int).toNat * 7 + 4, none⟩ = false := gM 4; have b6N : jI.frozen? ⟨cO, (aT : Int).toNat * 7 + 5, none⟩ = false := gM 5; have b3X : jI.frozen? ⟨cO, (aT : Int).toNat * 7 + 6, none⟩ = false := gM 6; clear J3 gP gM IE; replace ZQ := eq_true ZQ; replace ZC := eq_true ZC; obtain ⟨qZ, qN, H9⟩ := Kd.aBj b3Y.out; subst H9; have n_ := am_ (Kd.aAw (ok' := (fun k_ => some k_ ≠ (.slice qZ aJG.length qN : Value).ownBlock)) dS.out (fun k_ hk => hk.2)); clear dS; have dS := n_; clear n_; have aIT := am_ (show Kd.R jX 39 jI w.heap.size (fun _ => True) (.slice (some ⟨cO, 0, none⟩) bA.length DY) bA from (rk_ (Kd.aAw dS.out (fun _ hk => trivial)))); obtain ⟨cK2, ZE, aEV, uB, wZ⟩ := Kd.aFv aIT.out z39 (aT : Int) (oa_) (by have h_ : (aT : Int) < ((bA.length : Int) : Int) := oa_; first | exact h_ | (have e_ := (Kd.aAr dS.out).1; omega) | simpa using h_); obtain ⟨d2U, rfl, d78⟩ := TL aEV; have ZP := Kd.aPx aIT.out (aT : Int) (oa_) (by have h_ : (aT : Int) < ((bA.length : Int) : Int) := oa_; first | exact h_ | (have e_ := (Kd.aAr dS.out).1; omega) | simpa using h_) (seg := [.int .i64 aZ6, .int .i64 aYQ, .int .i64 aYO, .int .i64 b06, .string aZA, .string aZR, .slice qZ aJG.length qN]) (j := 0) ZE uB (show 7 ≤ 7 from by decide) (x' := (⟨aZ6, aYQ, (⟨aYO, b06, aZA⟩ : S36), aZR, aJG⟩ : S39)) (aAB _ _ _ (⟨aZ6, aYQ, (⟨aYO, b06, aZA⟩ : S36), aZR, aJG⟩ : S39) (Kd.aAw (b3Y.out) (fun k_ hk => ⟨trivial, fun e_ => (hk.2) (by rw [e_]; rfl)⟩))) (fun _ hk => hk); have YO := uB 0 _ rfl; have ZV := wZ 0; have YL := uB 1 _ rfl; have ZB := wZ 1; have aIX := uB 2 _ rfl; have aJJ := wZ 2; have bVB := uB 3 _ rfl; have bSH := wZ 3; have bXE := uB 4 _ rfl; have bTF := wZ 4; have bTD := uB 5 _ rfl; have c04 := wZ 5; have c05 := uB 6 _ rfl; have bX7 := wZ 6; (try simp only [show (jX).sz = 7 from rfl, Nat.mul_one, Nat.add_zero] at YO ZV YL ZB aIX aJJ bVB bSH bXE bTF bTD c04 c05 bX7); clear ZE uB wZ aEV) | ((with_reducible refine aDn (t := 39) (p := 21) rfl ?_); refine aCy (t := 39) (p := 21) (v := ?bAS) (w1 := (((((((jI.setCell ⟨cO, (aT : Int).toNat * 7, none⟩ (.int .i64 aZ6)).setCell ⟨cO, (aT : Int).toNat * 7 + 1, none⟩ (.int .i64 aYQ)).setCell ⟨cO, (aT : Int).toNat * 7 + 2, none⟩ (.int .i64 aYO)).setCell ⟨cO, (aT : Int).toNat * 7 + 3, none⟩ (.int .i64 b06)).setCell ⟨cO, (aT : Int).toNat * 7 + 4, none⟩ (.string aZA)).setCell ⟨cO, (aT : Int).toNat * 7 + 5, none⟩ (.string aZR)).setCell ⟨cO, (aT : Int).toNat * 7 + 6, none⟩ (.slice qZ aJG.length qN))) ?hg ?ho ?hn ?hr ?_; (case ho => rfl); (case hg => rfl); (case hn => rfl); (case hr => first | (go_simp; done) | (go_simp; rfl)); intro w14 hw; have hg : jI.grownBy w14 (some cO) := (by rw [hw]; exact ZP.2); have ZG : Kd.R jX 39 w14 w.heap.size (fun _ => True) (.slice (some ⟨cO, 0, none⟩) bA.length DY) bT6 := (by rw [hw, cK9.out]; exact ZP.1); clear ZP; replace dS := am_ (ZG); replace HB := am_ ((by rw [hw]; exact aAk (aAk (aAk (aAk (aAk (aAk (aAk (HB.out) lC.out) lC.out) lC.out) lC.out) lC.out) lC.out) lC.out : Below w.heap.size w w14)); clear b3Y; clear hg hw ZG))
        go_roundg k1
        case measure => have := jK.out; omega
        case rel => exact ⟨(bT6), (wrap64 (aT + 1)), rs_, H', ⟨by have := jK.out; omega⟩, ⟨by (with_reducible repeat (first | apply Kd.aBf | apply Kd.aBg | apply Kd.aBi)); exact dS.out⟩, ⟨bb_⟩⟩
       ·rw [if_neg c9] at H
        exact nn_ H
      ·rw [if_neg c7] at H
       exact nn_ H
     ·rw [if_neg c6] at H
      have mY := decide_eq_false c6; clear c6; obtain rfl := Option.some.inj H
      go_wp2
      go_ret
      (exact ⟨_, rr_, by (with_reducible repeat (first | apply Kd.aBf | apply Kd.aBg | apply Kd.aBi)); exact dS.out, by repeat (first | (with_reducible first | exact HB.out | apply aAi | apply aAo | apply aAm) | exact HB.out)⟩)
  ·rw [if_neg c3] at H
   exact nn_ H
 ·rw [if_neg c2] at H
  exact nn_ H

def fE.f : Nat → Int → Int → Int → Int → ByteArray → ByteArray → (List S27) → Option (Int × Int × Int × Int × ByteArray × ByteArray × (List S39))
 | 0, _, _, _, _, _, _, _ => none
 | k + 1, aA, aD, aH, aK, aJ, aI, aQ => (mD.f aH aK aJ).bind fun YI => ((eQ.f (fE.f k) k aQ).bind fun b7D => (some (aA, aD, YI.1, YI.2.1, YI.2.2, aI, b7D)))
theorem fE.calls : ∀ (k : Nat) (aA aD : Int) (aH aK : Int) (aJ aI : ByteArray) (dY : Option Addr) (dR : Nat) (aQ : List S27) (r1 r2 : Int) (r3 r4 : Int) (r5 r6 : ByteArray) (r7 : List S39) (w : World) (gH : Kd.C k27 w dY aQ.length aQ) (gI : aQ.length ≤ dR) (h : fE.f k aA aD aH aK aJ aI aQ = some (r1, r2, r3, r4, r5, r6, r7)),
  Calls Tryz.prog 24 #[.agg #[.int .i64 aA, .int .i64 aD, .int .i64 aH, .int .i64 aK, .string aJ, .string aI, .slice dY aQ.length dR]] w fun e w' => ∃ v6_ : Value, e = .returned (.agg #[.int .i64 r1, .int .i64 r2, .int .i64 r3, .int .i64 r4, .string r5, .string r6, v6_]) ∧ Kd.R jX 39 w' w.heap.size (fun _ => True) v6_ r7 ∧ Below w.heap.size w w' := by
 intro k
 induction k with
 | zero =>
  intro aA aD aH aK aJ aI dY dR aQ r1 r2 r3 r4 r5 r6 r7 w gH gI h; exact absurd h (by simp [fE.f])
 | succ k ih_ =>
  intro aA aD aH aK aJ aI dY dR aQ r1 r2 r3 r4 r5 r6 r7 w gH gI h; obtain ⟨b2D, zH, b68, QU⟩ := cEF; have jZ := am_ gH; have lG := am_ gI; clear gH gI; have HB := am_ (Below.refl w.heap.size w); (have H : ((mD.f aH aK aJ).bind fun YI => ((eQ.f (fE.f k) k aQ).bind fun b7D => (some (aA, aD, YI.1, YI.2.1, YI.2.2, aI, b7D)))) = some (r1, r2, r3, r4, r5, r6, r7) := h); clear h; replace H := aBp H; obtain ⟨⟨bVN, bZI, bT9⟩, BB, H⟩ := H
  try dsimp only at H
  have A2 := am_ BB; clear BB; replace H := aBp H; obtain ⟨b7D, wN, H⟩ := H
  try dsimp only at H
  have A3 := am_ wN; clear wN; simp only [Option.some.injEq, Prod.mk.injEq] at H; obtain ⟨rfl, rfl, rfl, rfl, rfl, rfl, rfl⟩ := H
  go_enter Tryz.func24, Tryz.ntmps24
  go_wp2_with (first | ((with_reducible refine aAc (N := 1) rfl ?_); refine bx_ 1 #[.int .i64 aA, .int .i64 aD, .int .i64 aH, .int .i64 aK, .string aJ, .string aI, .slice dY aQ.length dR] 27 ?_; intro bQ7 hg w4 hbox hb; have DT := am_ (hbox); have cH7 := gw_ hg; replace HB := bs_ hb; clear hb hbox hg) | ((with_reducible refine aAc (N := 2) rfl ?_); refine bx_ 2 #[.int .i64 0, .int .i64 0, .int .i64 0, .int .i64 0, .string (⟨#[]⟩ : ByteArray), .string (⟨#[]⟩ : ByteArray), .slice none 0 0] 39 ?_; intro aFN hg w5 hbox hb; have N8 := am_ (hbox); have c8G := gw_ hg; have aYM := nl_ hg DT; have aYK := ng_ hg DT; replace DT := aAt DT hb; replace HB := bs_ hb; clear hb hbox hg) | ((with_reducible refine aAc (N := 3) rfl ?_); refine bx_ 3 #[.int .i64 0, .int .i64 0, .int .i64 0, .int .i64 0, .string (⟨#[]⟩ : ByteArray), .string (⟨#[]⟩ : ByteArray), .slice none 0 0] 39 ?_; intro aPK hg w6 hbox hb; have aHG := am_ (hbox); have cA6 := gw_ hg; have TJ := nl_ hg DT; have aYA := ng_ hg DT; have KI := nl_ hg N8; have aZQ := ng_ hg N8; replace DT := aAt DT hb; replace N8 := aAt N8 hb; replace HB := bs_ hb; clear hb hbox hg; have bKU := aYM.out; have bJT := aYK.out; have aJF := TJ.out; have aJ2 := aYA.out; obtain ⟨mX, nC, xB, K7, JW, KA, IY, nH, nG, x9, JG, JO, J6, II⟩ := b7_ DT; have aPS := aZQ.out; have aSU := KI.out; obtain ⟨CX, DR, KG, LK, LJ, LV, KW, BV, D5, KN, MN, KX, LG, L6⟩ := b7_ aHG) | ((with_reducible refine aAa (f := 52) rfl ?_); refine aBh (some 12) Tryz.func52 #[.agg #[.int .i64 aH, .int .i64 aK, .string aJ]] ?_; (with_reducible refine (mD.calls _ _ _ _ _ _ _ A2.out).mono ?_); rintro e w12 ⟨rfl, hb⟩; refine ⟨_, rfl, ?_⟩; replace DT := am_ (aBe (g := bQ7) (o := .cells #[.int .i64 aA, .int .i64 aD, .int .i64 aH, .int .i64 aK, .string aJ, .string aI, .slice dY aQ.length dR] 27 (0, 0)) (aTv TJ (aBx DT.out)) hb); replace N8 := am_ (aBe (g := aFN) (o := .cells #[.int .i64 0, .int .i64 0, .int .i64 0, .int .i64 0, .string (⟨#[]⟩ : ByteArray), .string (⟨#[]⟩ : ByteArray), .slice none 0 0] 39 (0, 0)) (aTv KI (aBx N8.out)) hb); replace aHG := am_ (aBe (g := aPK) (o := .cells #[.int .i64 aA, .int .i64 aD, .int .i64 0, .int .i64 0, .string (⟨#[]⟩ : ByteArray), .string (⟨#[]⟩ : ByteArray), .slice none 0 0] 39 (0, 0)) bw_ hb); replace HB := bs_ hb; (try clear hb); obtain ⟨MU, KT, a9N, a3W, aAV, a88, a8F, LB, KJ, aBT, a6Z, a9W, a2F, a6K⟩ := b7_ aHG; obtain ⟨nZ, nV, rD, vX, vP, vZ, wB, oG, nW, rA, wH, vJ, vG, vC⟩ := b7_ DT) | ((with_reducible refine aAa (f := 25) rfl ?_); refine aBh (some 19) Tryz.func25 #[.slice dY aQ.length dR] ?_; (with_reducible refine (eQ.calls _ ih_ _ _ _ _ _ _ (Kd.aAp jZ.out bb_) lG.out A3.out).mono ?_); rintro e w15 ⟨dC1, rfl, ho0, hb⟩; refine ⟨_, rfl, ?_⟩; have bPE := am_ (Kd.aBc (Kd.aOu (Kd.aOu ho0 (g := aFN) (o := .cells #[.int .i64 0, .int .i64 0, .int .i64 0, .int .i64 0, .string (⟨#[]⟩ : ByteArray), .string (⟨#[]⟩ : ByteArray), .slice none 0 0] 39 (0, 0)) (aYp KI (aBx N8.out))) (g := aPK) (o := .cells #[.int .i64 aA, .int .i64 aD, .int .i64 bVN, .int .i64 bZI, .string bT9, .string aI, .slice none 0 0] 39 (0, 0)) bw_) (aAj bb_)); replace DT := am_ (aBe (g := bQ7) (o := .cells #[.int .i64 aA, .int .i64 aD, .int .i64 aH, .int .i64 aK, .string aJ, .string aI, .slice dY aQ.length dR] 27 (0, 0)) (aYp TJ (aBx DT.out)) hb); replace N8 := am_ (aBe (g := aFN) (o := .cells #[.int .i64 0, .int .i64 0, .int .i64 0, .int .i64 0, .string (⟨#[]⟩ : ByteArray), .string (⟨#[]⟩ : ByteArray), .slice none 0 0] 39 (0, 0)) (aYp KI (aBx N8.out)) hb); replace aHG := am_ (aBe (g := aPK) (o := .cells #[.int .i64 aA, .int .i64 aD, .int .i64 bVN, .int .i64 bZI, .string bT9, .string aI, .slice none 0 0] 39 (0, 0)) bw_ hb); replace HB := bs_ hb; clear hb ho0; obtain ⟨bO6, bEQ, bZH⟩ := Kd.aBj bPE.out; subst bZH; obtain ⟨uE, sJ, vV, BQ, DN, D7, C9, tL, uF, vS, BP, DU, CS, BU⟩ := b7_ aHG; obtain ⟨tY, tJ, yJ, GR, FB, G7, GL, tK, sO, yP, F7, FQ, F8, GH⟩ := b7_ N8))
  (refine bodyPost_ret (results_cell_row rfl _ _ aFN 39 #[.int .i64 aA, .int .i64 aD, .int .i64 bVN, .int .i64 bZI, .string bT9, .string aI, .slice bO6 b7D.length bEQ] (0, 0) _ rfl bw_ Tryz.underlying39 rfl (by kernel_rfl)) rfl ?_); (exact ⟨_, rr_, by (with_reducible repeat (first | apply Kd.aBf | apply Kd.aBg | apply Kd.aBi)); exact Kd.aAw (aYm (aFc (Kd.aAw (Kd.aAw bPE.out (fun k_ hk => (⟨hk, hk.2⟩ : _ ∧ k_ ≠ aPK))) (fun k_ hk => (⟨hk, hk.1.1.2⟩ : _ ∧ k_ ≠ aFN))) (fun _ hk => hk.1.2)) (fun _ hk => hk.2)) (fun _ hk => trivial), by repeat (first | (with_reducible first | exact HB.out | apply aAi | apply aAo | apply aAm | refine aAk ?_ cH7.out | refine aAk ?_ c8G.out | refine aAk ?_ cA6.out) | exact HB.out)⟩)

def gG.l0 (E_ : Int → ByteArray → Int → Int → Int → Int → ByteArray → ByteArray → (List S27) → (List S27) → Int → (List S30) → Option (Int × ByteArray × Int × Int × Int × Int × ByteArray × ByteArray × (List S39) × (List S39) × Int × (List S42))) : Nat → List S30 → List S42 → Int → Option ((List S42))
 | 0, _, _, _ => none
 | k + 1, x0, x3, x4 => if x4 < (x0.length : Int) then (if 0 ≤ x4 then ((E_ ((aZ x0 x4).f0) ((aZ x0 x4).f1) ((aZ x0 x4).f2.f0) ((aZ x0 x4).f2.f1) ((aZ x0 x4).f2.f2.f0) ((aZ x0 x4).f2.f2.f1) ((aZ x0 x4).f2.f2.f2) ((aZ x0 x4).f2.f3) ((aZ x0 x4).f2.f4) ((aZ x0 x4).f3) ((aZ x0 x4).f4) ((aZ x0 x4).f5)).bind fun H8 => (if x4 < (x3.length : Int) then (gG.l0 E_ k x0 (x3.set (x4 : Int).toNat (⟨H8.1, H8.2.1, (⟨H8.2.2.1, H8.2.2.2.1, (⟨H8.2.2.2.2.1, H8.2.2.2.2.2.1, H8.2.2.2.2.2.2.1⟩ : S36), H8.2.2.2.2.2.2.2.1, H8.2.2.2.2.2.2.2.2.1⟩ : S39), H8.2.2.2.2.2.2.2.2.2.1, H8.2.2.2.2.2.2.2.2.2.2.1, H8.2.2.2.2.2.2.2.2.2.2.2⟩ : S42)) (wrap64 (x4 + 1))) else (none))) else (none)) else (some x3)
def gG.f (E_ : Int → ByteArray → Int → Int → Int → Int → ByteArray → ByteArray → (List S27) → (List S27) → Int → (List S30) → Option (Int × ByteArray × Int × Int × Int × Int × ByteArray × ByteArray × (List S39) × (List S39) × Int × (List S42))) (k : Nat) (l0 : List S30) : Option ((List S42)) := if 0 ≤ (l0.length : Int) then (if ((l0.length : Int) : Int).toNat ≤ 1675446289944 then (gG.l0 E_ k l0 (List.replicate ((l0.length : Int) : Int).toNat z42) 0) else (none)) else (none)
theorem gG.calls (E_ : Int → ByteArray → Int → Int → Int → Int → ByteArray → ByteArray → (List S27) → (List S27) → Int → (List S30) → Option (Int × ByteArray × Int × Int × Int × Int × ByteArray × ByteArray × (List S39) × (List S39) × Int × (List S42))) (UC : ∀ (aA : Int) (aD : ByteArray) (aH aK : Int) (aJ aI : Int) (bC bB : ByteArray) (dN : Option Addr) (dQ : Nat) (bG : List S27) (bZ : Option Addr) (cB : Nat) (aV : List S27) (aW : Int) (bP : Option Addr) (bM : Nat) (aM : List S30) (r1 : Int) (r2 : ByteArray) (r3 r4 : Int) (r5 r6 : Int) (r7 r8 : ByteArray) (r9 r10 : List S39) (r11 : Int) (r12 : List S42) (w : World) (mG : Kd.C k27 w dN bG.length bG) (lV : bG.length ≤ dQ) (jG : Kd.C k27 w bZ aV.length aV) (jH : aV.length ≤ cB) (jS : Kd.C k30 w bP aM.length aM) (jN : aM.length ≤ bM) (h : E_ aA aD aH aK aJ aI bC bB bG aV aW aM = some (r1, r2, r3, r4, r5, r6, r7, r8, r9, r10, r11, r12)), Calls Tryz.prog 9 #[.agg #[.int .i64 aA, .string aD, .int .i64 aH, .int .i64 aK, .int .i64 aJ, .int .i64 aI, .string bC, .string bB, .slice dN bG.length dQ, .slice bZ aV.length cB, .int .i64 aW, .slice bP aM.length bM]] w fun e w' => ∃ v8_ v9_ b5X : Value, e = .returned (.agg #[.int .i64 r1, .string r2, .int .i64 r3, .int .i64 r4, .int .i64 r5, .int .i64 r6, .string r7, .string r8, v8_, v9_, .int .i64 r11, b5X]) ∧ Kd.R jX 39 w' w.heap.size (fun k_ => some k_ ≠ (v9_ : Value).ownBlock) v8_ r9 ∧ Kd.R jX 39 w' w.heap.size (fun k_ => some k_ ≠ (v8_ : Value).ownBlock) v9_ r10 ∧ Kd.R E5 42 w' w.heap.size (fun k_ => some k_ ≠ (v8_ : Value).ownBlock ∧ some k_ ≠ (v9_ : Value).ownBlock) b5X r12 ∧ Below w.heap.size w w') (k : Nat) (A0 : Option Addr) (c0 : Nat) (l0 : List S30) (r : List S42) (w : World) (hr0 : Kd.C k30 w A0 l0.length l0) (hc0 : l0.length ≤ c0) (h : gG.f E_ k l0 = some r) :
  Calls Tryz.prog 26 #[.slice A0 l0.length c0] w fun e w' => ∃ I7 : Value, e = .returned (I7) ∧ Kd.R E5 42 w' w.heap.size (fun _ => True) I7 r ∧ Below w.heap.size w w' := by
 obtain ⟨b3H, MW⟩ := c60
 have jY := am_ hr0
 have oQ := am_ hc0
 clear hr0 hc0
 have HB := am_ (Below.refl w.heap.size w)
 have H : (if 0 ≤ (l0.length : Int) then (if ((l0.length : Int) : Int).toNat ≤ 1675446289944 then (gG.l0 E_ k l0 (List.replicate ((l0.length : Int) : Int).toNat z42) 0) else (none)) else (none)) = some r := h
 clear h
 by_cases c2 : 0 ≤ (l0.length : Int)
 ·rw [if_pos c2] at H
  have qD := eq_true c2; have JA := decide_eq_true c2; clear c2
  by_cases c3 : ((l0.length : Int) : Int).toNat ≤ 1675446289944
  ·rw [if_pos c3] at H
   have fC := eq_true c3; have lI := decide_eq_true c3; clear c3; obtain ⟨cJZ, aIA⟩ : ∃ y_ : List S42, y_ = (List.replicate ((l0.length : Int) : Int).toNat z42) := ⟨_, rfl⟩; (replace H : (gG.l0 E_ k l0 cJZ 0) = some r := by first | (rw [aIA]; with_reducible exact H) | (have jC := (Option.bind_some _ _).symm.trans H; rw [aIA]; with_reducible exact jC) | (have jC := (Option.bind_some _ _).symm.trans H; with_reducible exact jC) | with_reducible exact H | (rw [aIA]; exact H) | exact H); have bQG := am_ aIA; clear aIA; have H' := am_ H; clear H
   go_enter Tryz.func26, Tryz.ntmps26
   go_wp2_with (first | ((with_reducible refine aAc (N := 7) rfl ?_); refine Kd.aKq E5 _ 42 rfl (N := 7) rfl 40 _ _ rfl (l0.length : Int) rfl rfl Tryz.underlying40 (.agg #[(.int .i64 0), (.string ⟨#[]⟩), (.int .i64 0), (.int .i64 0), (.int .i64 0), (.int .i64 0), (.string ⟨#[]⟩), (.string ⟨#[]⟩), (.slice none 0 0), (.slice none 0 0), (.int .i64 0), (.slice none 0 0)]) 168 bV9 rfl (by decide) (by omega) z42 (ok := fun _ => True) (okp := fun _ => True) (a3U _ _ _ z42 (Kd.aFr _ _ _ _ _) (Kd.aFr _ _ _ _ _) (Kd.aFr _ _ _ _ _)) (fun _ hk => hk) trivial (oa_) (Nat.le_trans (Nat.mul_le_mul_right _ (oa_ : (l0.length : Int).toNat ≤ 1675446289944)) (by omega)) (Below.refl _ _) (Nat.le_refl _) ?_; intro d2B w4 EY hb DZ j4; clear DZ j4; (first | rw [← bQG.out] at EY | (simp only [Int.reduceToNat] at EY; rw [← bQG.out] at EY)); have cJW := am_ (Kd.aBc EY (aAj bb_)); replace HB := bs_ hb; clear hb EY))
   go_loopg [4] k (fun kq v4 w' => ∃ (bA : List S42) (aT : Int), v4 = .int .i64 aT ∧ Aside0 (gG.l0 E_ kq l0 bA aT = some r) ∧ Aside0 (kq ≤ k) ∧ Aside0 (Kd.R E5 42 w' w.heap.size (fun _ => True) d2B bA) ∧ Aside0 (Below w.heap.size w w'))
   case atStart => exact ⟨(cJZ), (0), rs_, H', ⟨Nat.le_refl _⟩, ⟨by (with_reducible repeat (first | apply Kd.aBf | apply Kd.aBg | apply Kd.aBi)); exact cJW.out⟩, ⟨bb_⟩⟩
   case round =>
    clear H'; (try clear c2); (try clear qD); (try clear JA); (try clear p2); (try clear c3); (try clear fC); (try clear lI); obtain ⟨bA, aT, rfl, HA, jK, dS, HB⟩ := hrel
    cases gk with
    | zero => exact absurd HA.out (by simp [gG.l0])
    | succ k1 =>
     have H := HA.out; clear HA; simp only [gG.l0] at H
     by_cases c6 : aT < (l0.length : Int)
     ·rw [if_pos c6] at H
      have mY := decide_eq_true c6; clear c6
      by_cases c7 : 0 ≤ aT
      ·rw [if_pos c7] at H
       have iV := decide_eq_true c7; clear c7; replace H := aBp H; obtain ⟨⟨aZC, aZG, aZ5, aZH, aZS, b0D, aZ0, aYI, aJZ, aJK, aYS, aJP⟩, RY, H⟩ := H
       try dsimp only at H
       have A8 := am_ RY; clear RY
       by_cases c9 : aT < (bA.length : Int)
       ·rw [if_pos c9] at H
        have xC := decide_eq_true c9; clear c9; obtain ⟨bZV, aCZ⟩ : ∃ y_ : List S42, y_ = (bA.set (aT : Int).toNat (⟨aZC, aZG, (⟨aZ5, aZH, (⟨aZS, b0D, aZ0⟩ : S36), aYI, aJZ⟩ : S39), aJK, aYS, aJP⟩ : S42)) := ⟨_, rfl⟩; (replace H : (gG.l0 E_ k1 l0 bZV (wrap64 (aT + 1))) = some r := by first | (rw [aCZ]; with_reducible exact H) | (have jC := (Option.bind_some _ _).symm.trans H; rw [aCZ]; with_reducible exact jC) | (have jC := (Option.bind_some _ _).symm.trans H; with_reducible exact jC) | with_reducible exact H | (rw [aCZ]; exact H) | exact H); have cJB := am_ aCZ; clear aCZ; have H' := am_ H; clear H; (have c0H : 0 ≤ (aT : Int) := oa_); (have bTS : aT < (l0.length : Int) := oa_); obtain ⟨dB2, bV0, bSB, bTV, bYB, bHQ, bLP, d47, aPG, aTW, aPE, aLG, aTS, aXH, aR4, aVC, aMS, aU6, aD4, aHC, aPQ, aPX, aM1, aVD, aI8, aDD⟩ := b5E jY.out aT c0H bTS; cases d47; obtain ⟨aPG, aTW, aPE, aLG, aTS, aXH, aR4, aVC, aMS, aU6, aD4, aHC⟩ := aNq HB aPG aTW aPE aLG aTS aXH aR4 aVC aMS aU6 aD4 aHC; have bCQ := am_ aPX; have bIX := am_ aPQ; clear aPX aPQ; have bIS := am_ aVD; have bCJ := am_ aM1; clear aVD aM1; have b4U := am_ aDD; have bAN := am_ aI8; clear aDD aI8; replace c0H := eq_true c0H; replace bTS := eq_true bTS
        go_wp2_with (first | ((with_reducible refine aAa (f := 9) rfl ?_); refine aBh (some 20) Tryz.func9 #[.agg #[.int .i64 ((aZ l0 aT).f0), .string ((aZ l0 aT).f1), .int .i64 ((aZ l0 aT).f2.f0), .int .i64 ((aZ l0 aT).f2.f1), .int .i64 ((aZ l0 aT).f2.f2.f0), .int .i64 ((aZ l0 aT).f2.f2.f1), .string ((aZ l0 aT).f2.f2.f2), .string ((aZ l0 aT).f2.f3), .slice bV0 ((aZ l0 aT).f2.f4).length bSB, .slice bTV ((aZ l0 aT).f3).length bYB, .int .i64 ((aZ l0 aT).f4), .slice bHQ ((aZ l0 aT).f5).length bLP]] ?_; (with_reducible refine (UC ((aZ l0 aT).f0) ((aZ l0 aT).f1) ((aZ l0 aT).f2.f0) ((aZ l0 aT).f2.f1) ((aZ l0 aT).f2.f2.f0) ((aZ l0 aT).f2.f2.f1) ((aZ l0 aT).f2.f2.f2) ((aZ l0 aT).f2.f3) _ _ ((aZ l0 aT).f2.f4) _ _ ((aZ l0 aT).f3) ((aZ l0 aT).f4) _ _ ((aZ l0 aT).f5) aZC aZG aZ5 aZH aZS b0D aZ0 aYI aJZ aJK aYS aJP _ ?fM ?fO ?iN ?j3 ?zO ?zL A8.out).mono ?_); (case fM => exact cb_ bCQ HB); (case fO => exact bIX.out); (case iN => exact cb_ bIS HB); (case j3 => exact bCJ.out); (case zO => exact cb_ b4U HB); (case zL => exact bAN.out); rintro e jI ⟨dE5, dE1, dDQ, rfl, ho0, ho1, ho2, hb⟩; refine ⟨_, rfl, ?_⟩; have b78 := am_ (Kd.aBc ho0 (aAj bb_)); have b1T := am_ (Kd.aBc ho1 (aAj bb_)); have b1X := am_ (Kd.aBc (Kd.aDv ho2 (Kd.aHf (rk_ dS.out))) (aAj bb_)); replace dS := am_ (Kd.aAw (Kd.aIc (Kd.aIc (Kd.aIc (Kd.aVg (rk_ dS.out) hb) (Kd.aCn ho0)) (Kd.aCn ho1)) (Kd.aCn ho2)) (fun _ h_ => h_.1)); replace HB := bs_ hb; clear hb ho0 ho1 ho2; have ZQ : 0 ≤ (aT : Int) := oa_; have ZC : (aT : Int) < ((bA.length : Int) : Int) := oa_; obtain ⟨cO, DY, DX, JK, Y4, b5P, JC⟩ := Kd.aIf dS.out (by omega); (first | cases DX | (injection DX with rW SI TD; (first | subst rW | (injection rW with rW; subst rW)); subst TD; clear SI)); have lC := am_ JK; have b2H := am_ JC; clear JK Y4 JC; obtain ⟨b52, J3, IE, gP, gM⟩ := Kd.aFv dS.out z42 (aT : Int) ZQ ZC; obtain ⟨bYM, aJ3, bFT, rfl, d69, bV8, cQ7⟩ := TC IE; have YJ : jI.cell? ⟨cO, (aT : Int).toNat * 12, none⟩ = some (.int .i64 ((aAe bA aT).f0)) := gP 0 _ rfl; have Y2 : jI.cell? ⟨cO, (aT : Int).toNat * 12 + 1, none⟩ = some (.string ((aAe bA aT).f1)) := gP 1 _ rfl; have a6P : jI.cell? ⟨cO, (aT : Int).toNat * 12 + 2, none⟩ = some (.int .i64 ((aAe bA aT).f2.f0)) := gP 2 _ rfl; have b2Z : jI.cell? ⟨cO, (aT : Int).toNat * 12 + 3, none⟩ = some (.int .i64 ((aAe bA aT).f2.f1)) := gP 3 _ rfl; have b5C : jI.cell? ⟨cO, (aT : Int).toNat * 12 + 4, none⟩ = some (.int .i64 ((aAe bA aT).f2.f2.f0)) := gP 4 _ rfl; have b9E : jI.cell? ⟨cO, (aT : Int).toNat * 12 + 5, none⟩ = some (.int .i64 ((aAe bA aT).f2.f2.f1)) := gP 5 _ rfl; have b0P : jI.cell? ⟨cO, (aT : Int).toNat * 12 + 6, none⟩ = some (.string ((aAe bA aT).f2.f2.f2)) := gP 6 _ rfl; have bRY : jI.cell? ⟨cO, (aT : Int).toNat * 12 + 7, none⟩ = some (.string ((aAe bA aT).f2.f3)) := gP 7 _ rfl; have bUW : jI.cell? ⟨cO, (aT : Int).toNat * 12 + 8, none⟩ = some (bYM) := gP 8 _ rfl; have bSO : jI.cell? ⟨cO, (aT : Int).toNat * 12 + 9, none⟩ = some (aJ3) := gP 9 _ rfl; have bJ0 : jI.cell? ⟨cO, (aT : Int).toNat * 12 + 10, none⟩ = some (.int .i64 ((aAe bA aT).f4)) := gP 10 _ rfl; have bNV : jI.cell? ⟨cO, (aT : Int).toNat * 12 + 11, none⟩ = some (bFT) := gP 11 _ rfl; have XT : jI.frozen? ⟨cO, (aT : Int).toNat * 12, none⟩ = false := gM 0; have YN : jI.frozen? ⟨cO, (aT : Int).toNat * 12 + 1, none⟩ = false := gM 1; have aAU : jI.frozen? ⟨cO, (aT : Int).toNat * 12 + 2, none⟩ = false := gM 2; have b4N : jI.frozen? ⟨cO, (aT : Int).toNat * 12 + 3, none⟩ = false := gM 3; have b47 : jI.frozen? ⟨cO, (aT : Int).toNat * 12 + 4, none⟩ = false := gM 4; have b6N : jI.frozen? ⟨cO, (aT : Int).toNat * 12 + 5, none⟩ = false := gM 5; have b3X : jI.frozen? ⟨cO, (aT : Int).toNat * 12 + 6, none⟩ = false := gM 6; have bYF : jI.frozen? ⟨cO, (aT : Int).toNat * 12 + 7, none⟩ = false := gM 7; have bRS : jI.frozen? ⟨cO, (aT : Int).toNat * 12 + 8, none⟩ = false := gM 8; have bRT : jI.frozen? ⟨cO, (aT : Int).toNat * 12 + 9, none⟩ = false := gM 9; have bDZ : jI.frozen? ⟨cO, (aT : Int).toNat * 12 + 10, none⟩ = false := gM 10; have bJI : jI.frozen? ⟨cO, (aT : Int).toNat * 12 + 11, none⟩ = false := gM 11; clear J3 gP gM IE; replace ZQ := eq_true ZQ; replace ZC := eq_true ZC; obtain ⟨qZ, qN, H9⟩ := Kd.aBj b1X.out; subst H9; obtain ⟨a5E, a4B, b2A⟩ := Kd.aBj b1T.out; subst b2A; obtain ⟨a0P, a03, b1E⟩ := Kd.aBj b78.out; subst b1E; have n_ := am_ (Kd.aAw (ok' := (fun k_ => some k_ ≠ (.slice a0P aJZ.length a03 : Value).ownBlock ∧ some k_ ≠ (.slice a5E aJK.length a4B : Value).ownBlock ∧ some k_ ≠ (.slice qZ aJP.length qN : Value).ownBlock)) dS.out (fun k_ hk => ⟨hk.1.1.2, ⟨hk.1.2, hk.2⟩⟩)); clear dS; have dS := n_; clear n_; have c8E := am_ (show Kd.R E5 42 jI w.heap.size (fun _ => True) (.slice (some ⟨cO, 0, none⟩) bA.length DY) bA from (rk_ (Kd.aAw dS.out (fun _ hk => trivial)))); obtain ⟨dCZ, bP5, cFC, BG, E8⟩ := Kd.aFv c8E.out z42 (aT : Int) (oa_) (by have h_ : (aT : Int) < ((bA.length : Int) : Int) := oa_; first | exact h_ | (have e_ := (Kd.aAr dS.out).1; omega) | simpa using h_); obtain ⟨d73, d5D, cXI, rfl, d62, d5Q, cZT⟩ := TC cFC; have bU4 := Kd.aPx c8E.out (aT : Int) (oa_) (by have h_ : (aT : Int) < ((bA.length : Int) : Int) := oa_; first | exact h_ | (have e_ := (Kd.aAr dS.out).1; omega) | simpa using h_) (seg := [.int .i64 aZC, .string aZG, .int .i64 aZ5, .int .i64 aZH, .int .i64 aZS, .int .i64 b0D, .string aZ0, .string aYI, .slice a0P aJZ.length a03, .slice a5E aJK.length a4B, .int .i64 aYS, .slice qZ aJP.length qN]) (j := 0) bP5 BG (show 12 ≤ 12 from by decide) (x' := (⟨aZC, aZG, (⟨aZ5, aZH, (⟨aZS, b0D, aZ0⟩ : S36), aYI, aJZ⟩ : S39), aJK, aYS, aJP⟩ : S42)) (a3U _ _ _ (⟨aZC, aZG, (⟨aZ5, aZH, (⟨aZS, b0D, aZ0⟩ : S36), aYI, aJZ⟩ : S39), aJK, aYS, aJP⟩ : S42) (Kd.aAw (Kd.aEh (b78.out) (Kd.aGe dS.out) (by decide)) (fun k_ hk => ⟨trivial, fun e_ => (hk.2) (by rw [e_]; rfl)⟩)) (Kd.aAw (Kd.aEh (b1T.out) (Kd.aGe dS.out) (by decide)) (fun k_ hk => ⟨trivial, fun e_ => (hk.2) (by rw [e_]; rfl)⟩)) (Kd.aAw (b1X.out) (fun k_ hk => ⟨trivial, fun e_ => (hk.2) (by rw [e_]; rfl)⟩))) (fun _ hk => hk); have bRN := BG 0 _ rfl; have bRL := E8 0; have bWH := BG 1 _ rfl; have bU5 := E8 1; have c1R := BG 2 _ rfl; have bVE := E8 2; have c1J := BG 3 _ rfl; have bX4 := E8 3; have bZA := BG 4 _ rfl; have bSE := E8 4; have bZ6 := BG 5 _ rfl; have bSC := E8 5; have bUJ := BG 6 _ rfl; have bY9 := E8 6; have bYD := BG 7 _ rfl; have bW2 := E8 7; have c25 := BG 8 _ rfl; have bZ8 := E8 8; have bRF := BG 9 _ rfl; have bRX := E8 9; have bKD := BG 10 _ rfl; have bIG := E8 10; have bGI := BG 11 _ rfl; have bKH := E8 11; (try simp only [show (E5).sz = 12 from rfl, Nat.mul_one, Nat.add_zero] at bRN bRL bWH bU5 c1R bVE c1J bX4 bZA bSE bZ6 bSC bUJ bY9 bYD bW2 c25 bZ8 bRF bRX bKD bIG bGI bKH); clear bP5 BG E8 cFC) | ((with_reducible refine aDn (t := 42) (p := 21) rfl ?_); refine aCy (t := 42) (p := 21) (v := ?d54) (w1 := ((((((((((((jI.setCell ⟨cO, (aT : Int).toNat * 12, none⟩ (.int .i64 aZC)).setCell ⟨cO, (aT : Int).toNat * 12 + 1, none⟩ (.string aZG)).setCell ⟨cO, (aT : Int).toNat * 12 + 2, none⟩ (.int .i64 aZ5)).setCell ⟨cO, (aT : Int).toNat * 12 + 3, none⟩ (.int .i64 aZH)).setCell ⟨cO, (aT : Int).toNat * 12 + 4, none⟩ (.int .i64 aZS)).setCell ⟨cO, (aT : Int).toNat * 12 + 5, none⟩ (.int .i64 b0D)).setCell ⟨cO, (aT : Int).toNat * 12 + 6, none⟩ (.string aZ0)).setCell ⟨cO, (aT : Int).toNat * 12 + 7, none⟩ (.string aYI)).setCell ⟨cO, (aT : Int).toNat * 12 + 8, none⟩ (.slice a0P aJZ.length a03)).setCell ⟨cO, (aT : Int).toNat * 12 + 9, none⟩ (.slice a5E aJK.length a4B)).setCell ⟨cO, (aT : Int).toNat * 12 + 10, none⟩ (.int .i64 aYS)).setCell ⟨cO, (aT : Int).toNat * 12 + 11, none⟩ (.slice qZ aJP.length qN))) ?hg ?ho ?hn ?hr ?_; (case ho => rfl); (case hg => rfl); (case hn => rfl); (case hr => first | (go_simp; done) | (go_simp; rfl)); intro w16 hw; have hg : jI.grownBy w16 (some cO) := (by rw [hw]; exact bU4.2); have ZG : Kd.R E5 42 w16 w.heap.size (fun _ => True) (.slice (some ⟨cO, 0, none⟩) bA.length DY) bZV := (by rw [hw, cJB.out]; exact bU4.1); clear bU4; replace dS := am_ (ZG); replace HB := am_ ((by rw [hw]; exact aAk (aAk (aAk (aAk (aAk (aAk (aAk (aAk (aAk (aAk (aAk (aAk (HB.out) lC.out) lC.out) lC.out) lC.out) lC.out) lC.out) lC.out) lC.out) lC.out) lC.out) lC.out) lC.out : Below w.heap.size w w16)); clear b78 b1T b1X; clear hg hw ZG))
        go_roundg k1
        case measure => have := jK.out; omega
        case rel => exact ⟨(bZV), (wrap64 (aT + 1)), rs_, H', ⟨by have := jK.out; omega⟩, ⟨by (with_reducible repeat (first | apply Kd.aBf | apply Kd.aBg | apply Kd.aBi)); exact dS.out⟩, ⟨bb_⟩⟩
       ·rw [if_neg c9] at H
        exact nn_ H
      ·rw [if_neg c7] at H
       exact nn_ H
     ·rw [if_neg c6] at H
      have mY := decide_eq_false c6; clear c6; obtain rfl := Option.some.inj H
      go_wp2
      go_ret
      (exact ⟨_, rr_, by (with_reducible repeat (first | apply Kd.aBf | apply Kd.aBg | apply Kd.aBi)); exact dS.out, by repeat (first | (with_reducible first | exact HB.out | apply aAi | apply aAo | apply aAm) | exact HB.out)⟩)
  ·rw [if_neg c3] at H
   exact nn_ H
 ·rw [if_neg c2] at H
  exact nn_ H

def jF.f : Nat → Int → ByteArray → Int → Int → Int → Int → ByteArray → ByteArray → (List S27) → (List S27) → Int → (List S30) → Option (Int × ByteArray × Int × Int × Int × Int × ByteArray × ByteArray × (List S39) × (List S39) × Int × (List S42))
 | 0, _, _, _, _, _, _, _, _, _, _, _, _ => none
 | k + 1, aA, aD, aH, aK, aJ, aI, bC, bB, bG, aV, aW, aM => (fE.f k aH aK aJ aI bC bB bG).bind fun AX => ((eQ.f (fE.f k) k aV).bind fun aJ4 => ((gG.f (jF.f k) k aM).bind fun b8W => (some (aA, aD, AX.1, AX.2.1, AX.2.2.1, AX.2.2.2.1, AX.2.2.2.2.1, AX.2.2.2.2.2.1, AX.2.2.2.2.2.2, aJ4, aW, b8W))))
theorem jF.calls : ∀ (k : Nat) (aA : Int) (aD : ByteArray) (aH aK : Int) (aJ aI : Int) (bC bB : ByteArray) (dN : Option Addr) (dQ : Nat) (bG : List S27) (bZ : Option Addr) (cB : Nat) (aV : List S27) (aW : Int) (bP : Option Addr) (bM : Nat) (aM : List S30) (r1 : Int) (r2 : ByteArray) (r3 r4 : Int) (r5 r6 : Int) (r7 r8 : ByteArray) (r9 r10 : List S39) (r11 : Int) (r12 : List S42) (w : World) (mG : Kd.C k27 w dN bG.length bG) (lV : bG.length ≤ dQ) (jG : Kd.C k27 w bZ aV.length aV) (jH : aV.length ≤ cB) (jS : Kd.C k30 w bP aM.length aM) (jN : aM.length ≤ bM) (h : jF.f k aA aD aH aK aJ aI bC bB bG aV aW aM = some (r1, r2, r3, r4, r5, r6, r7, r8, r9, r10, r11, r12)),
  Calls Tryz.prog 9 #[.agg #[.int .i64 aA, .string aD, .int .i64 aH, .int .i64 aK, .int .i64 aJ, .int .i64 aI, .string bC, .string bB, .slice dN bG.length dQ, .slice bZ aV.length cB, .int .i64 aW, .slice bP aM.length bM]] w fun e w' => ∃ v8_ v9_ b5X : Value, e = .returned (.agg #[.int .i64 r1, .string r2, .int .i64 r3, .int .i64 r4, .int .i64 r5, .int .i64 r6, .string r7, .string r8, v8_, v9_, .int .i64 r11, b5X]) ∧ Kd.R jX 39 w' w.heap.size (fun k_ => some k_ ≠ (v9_ : Value).ownBlock) v8_ r9 ∧ Kd.R jX 39 w' w.heap.size (fun k_ => some k_ ≠ (v8_ : Value).ownBlock) v9_ r10 ∧ Kd.R E5 42 w' w.heap.size (fun k_ => some k_ ≠ (v8_ : Value).ownBlock ∧ some k_ ≠ (v9_ : Value).ownBlock) b5X r12 ∧ Below w.heap.size w w' := by
 intro k
 induction k with
 | zero =>
  intro aA aD aH aK aJ aI bC bB dN dQ bG bZ cB aV aW bP bM aM r1 r2 r3 r4 r5 r6 r7 r8 r9 r10 r11 r12 w mG lV jG jH jS jN h; exact absurd h (by simp [jF.f])
 | succ k ih_ =>
  intro aA aD aH aK aJ aI bC bB dN dQ bG bZ cB aV aW bP bM aM r1 r2 r3 r4 r5 r6 r7 r8 r9 r10 r11 r12 w mG lV jG jH jS jN h; obtain ⟨b3H, MW, b2D, zH⟩ := cI9; have iG := am_ mG; have iD := am_ lV; clear mG lV; have iR := am_ jG; have iZ := am_ jH; clear jG jH; have jE := am_ jS; have jR := am_ jN; clear jS jN; have HB := am_ (Below.refl w.heap.size w); (have H : ((fE.f k aH aK aJ aI bC bB bG).bind fun AX => ((eQ.f (fE.f k) k aV).bind fun aJ4 => ((gG.f (jF.f k) k aM).bind fun b8W => (some (aA, aD, AX.1, AX.2.1, AX.2.2.1, AX.2.2.2.1, AX.2.2.2.2.1, AX.2.2.2.2.2.1, AX.2.2.2.2.2.2, aJ4, aW, b8W))))) = some (r1, r2, r3, r4, r5, r6, r7, r8, r9, r10, r11, r12) := h); clear h; replace H := aBp H; obtain ⟨⟨bHB, bL1, bO2, bGU, bIA, bCM, bGW⟩, BB, H⟩ := H
  try dsimp only at H
  have A2 := am_ BB; clear BB; replace H := aBp H; obtain ⟨aJ4, wN, H⟩ := H
  try dsimp only at H
  have A3 := am_ wN; clear wN; replace H := aBp H; obtain ⟨b8W, N9, H⟩ := H
  try dsimp only at H
  have A4 := am_ N9; clear N9; simp only [Option.some.injEq, Prod.mk.injEq] at H; obtain ⟨rfl, rfl, rfl, rfl, rfl, rfl, rfl, rfl, rfl, rfl, rfl, rfl⟩ := H
  go_enter Tryz.func9, Tryz.ntmps9
  go_wp2_with (first | ((with_reducible refine aAc (N := 1) rfl ?_); refine bx_ 1 #[.int .i64 aA, .string aD, .int .i64 aH, .int .i64 aK, .int .i64 aJ, .int .i64 aI, .string bC, .string bB, .slice dN bG.length dQ, .slice bZ aV.length cB, .int .i64 aW, .slice bP aM.length bM] 30 ?_; intro b5G hg w5 hbox hb; have tX := am_ (hbox); have cDT := gw_ hg; replace HB := bs_ hb; clear hb hbox hg) | ((with_reducible refine aAc (N := 2) rfl ?_); refine bx_ 2 #[.int .i64 0, .string (⟨#[]⟩ : ByteArray), .int .i64 0, .int .i64 0, .int .i64 0, .int .i64 0, .string (⟨#[]⟩ : ByteArray), .string (⟨#[]⟩ : ByteArray), .slice none 0 0, .slice none 0 0, .int .i64 0, .slice none 0 0] 42 ?_; intro a1D hg w6 hbox hb; have xH := am_ (hbox); have cFI := gw_ hg; have aYH := nl_ hg tX; have aZI := ng_ hg tX; replace tX := aAt tX hb; replace HB := bs_ hb; clear hb hbox hg) | ((with_reducible refine aAc (N := 3) rfl ?_); refine bx_ 3 #[.int .i64 0, .string (⟨#[]⟩ : ByteArray), .int .i64 0, .int .i64 0, .int .i64 0, .int .i64 0, .string (⟨#[]⟩ : ByteArray), .string (⟨#[]⟩ : ByteArray), .slice none 0 0, .slice none 0 0, .int .i64 0, .slice none 0 0] 42 ?_; intro aD3 hg w7 hbox hb; have wV := am_ (hbox); have cFA := gw_ hg; have MR := nl_ hg tX; have aYP := ng_ hg tX; have EM := nl_ hg xH; have aYX := ng_ hg xH; replace tX := aAt tX hb; replace xH := aAt xH hb; replace HB := bs_ hb; clear hb hbox hg; have aJF := aYH.out; have aJ2 := aZI.out; have bSZ := MR.out; have bV2 := aYP.out; obtain ⟨lN, lL, nI, DD, BX, DI, D8, aS5, aWP, aXJ, aGL, aCR, lM, lJ, nD, DF, CU, CE, CV, aV8, aSH, aVP, aCJ, aHB⟩ := aBw tX; have cMN := aYX.out; have cEV := EM.out; obtain ⟨uI, tF, xS, GK, FY, FZ, GJ, aTI, aXB, aSY, aER, aE3, uA, sG, xW, FV, GA, G5, FN, aY7, aNB, aL3, aFF, aEY⟩ := aBw wV) | ((with_reducible refine aAa (f := 24) rfl ?_); refine aBh (some 12) Tryz.func24 #[.agg #[.int .i64 aH, .int .i64 aK, .int .i64 aJ, .int .i64 aI, .string bC, .string bB, .slice dN bG.length dQ]] ?_; (with_reducible refine (fE.calls _ _ _ _ _ _ _ _ _ _ _ _ _ _ _ _ _ _ (Kd.aAp iG.out bb_) iD.out A2.out).mono ?_); rintro e ZO ⟨dD9, rfl, ho0, hb⟩; refine ⟨_, rfl, ?_⟩; have NG := am_ (Kd.aBc ho0 (aAj bb_)); replace tX := am_ (aBe (g := b5G) (o := .cells #[.int .i64 aA, .string aD, .int .i64 aH, .int .i64 aK, .int .i64 aJ, .int .i64 aI, .string bC, .string bB, .slice dN bG.length dQ, .slice bZ aV.length cB, .int .i64 aW, .slice bP aM.length bM] 30 (0, 0)) (aTv MR (aBx tX.out)) hb); replace xH := am_ (aBe (g := a1D) (o := .cells #[.int .i64 0, .string (⟨#[]⟩ : ByteArray), .int .i64 0, .int .i64 0, .int .i64 0, .int .i64 0, .string (⟨#[]⟩ : ByteArray), .string (⟨#[]⟩ : ByteArray), .slice none 0 0, .slice none 0 0, .int .i64 0, .slice none 0 0] 42 (0, 0)) (aTv EM (aBx xH.out)) hb); replace wV := am_ (aBe (g := aD3) (o := .cells #[.int .i64 aA, .string aD, .int .i64 0, .int .i64 0, .int .i64 0, .int .i64 0, .string (⟨#[]⟩ : ByteArray), .string (⟨#[]⟩ : ByteArray), .slice none 0 0, .slice none 0 0, .int .i64 0, .slice none 0 0] 42 (0, 0)) bw_ hb); replace HB := bs_ hb; clear hb ho0; obtain ⟨nZ, nV, rD, vX, vP, vZ, wB, D9, CG, BL, wS, wM, oG, nW, rA, wH, vJ, vG, vC, CL, BI, DJ, wX, wO⟩ := aBw wV; obtain ⟨Y3, XY, b3M⟩ := Kd.aBj NG.out; subst b3M; obtain ⟨rH, rO, tQ, vE, vW, vY, wG, LP, LW, MQ, EG, ES, rE, rP, sP, vN, vM, vT, wF, KE, L8, KQ, E9, EQ⟩ := aBw tX) | ((with_reducible refine aAa (f := 25) rfl ?_); refine aBh (some 16) Tryz.func25 #[.slice bZ aV.length cB] ?_; (with_reducible refine (eQ.calls _ (fE.calls k) _ _ _ _ _ _ (Kd.aAp iR.out bb_) iZ.out A3.out).mono ?_); rintro e w17 ⟨dDW, rfl, ho0, hb⟩; refine ⟨_, rfl, ?_⟩; have n0_ := am_ (Kd.aCi (rk_ (Kd.aAw (aYm (Kd.aCa NG.out wV.out (by decide)) (fun _ hk => hk.2)) (fun _ h_ => h_.1))) (Kd.aCn ho0) hb); have n1_ := am_ (Kd.aBc (Kd.aDv ho0 (Kd.aHf (rk_ (Kd.aAw (aYm (Kd.aCa NG.out wV.out (by decide)) (fun _ hk => hk.2)) (fun _ h_ => h_.1))))) (aAj bb_)); have pO := am_ (aBe (g := b5G) (o := .cells #[.int .i64 aA, .string aD, .int .i64 aH, .int .i64 aK, .int .i64 aJ, .int .i64 aI, .string bC, .string bB, .slice dN bG.length dQ, .slice bZ aV.length cB, .int .i64 aW, .slice bP aM.length bM] 30 (0, 0)) (aYc MR (aBx tX.out)) hb); have n3_ := am_ (aBe (g := a1D) (o := .cells #[.int .i64 0, .string (⟨#[]⟩ : ByteArray), .int .i64 0, .int .i64 0, .int .i64 0, .int .i64 0, .string (⟨#[]⟩ : ByteArray), .string (⟨#[]⟩ : ByteArray), .slice none 0 0, .slice none 0 0, .int .i64 0, .slice none 0 0] 42 (0, 0)) (aYc EM (aBx xH.out)) hb); have n4_ := am_ (aBe (g := aD3) (o := .cells #[.int .i64 aA, .string aD, .int .i64 bHB, .int .i64 bL1, .int .i64 bO2, .int .i64 bGU, .string bIA, .string bCM, .slice Y3 bGW.length XY, .slice none 0 0, .int .i64 0, .slice none 0 0] 42 (0, 0)) bw_ hb); have n5_ := bs_ hb; clear NG; clear tX; clear xH; clear wV; clear HB; have NG := n0_; have a1A := n1_; have tX := pO; have xH := n3_; have wV := n4_; have HB := n5_; clear n0_ n1_ pO n3_ n4_ n5_; clear hb ho0; obtain ⟨bSF, bY5, d4N⟩ := Kd.aBj a1A.out; subst d4N; obtain ⟨yC, yG, yI, CK, C8, DL, CZ, QE, PO, R8, IL, J2, xX, xR, yF, BO, BS, CR, CO, O3, PP, PV, JD, J5⟩ := aBw wV; obtain ⟨yD, xU, CJ, GG, FM, FH, F4, O4, PR, RG, IP, JQ, yN, yL, BR, FT, F5, FX, GM, Q3, OE, OJ, IR, JB⟩ := aBw tX) | ((with_reducible refine aAa (f := 26) rfl ?_); refine aBh (some 23) Tryz.func26 #[.slice bP aM.length bM] ?_; (with_reducible refine (gG.calls _ ih_ _ _ _ _ _ _ (Kd.aAp jE.out bb_) jR.out A4.out).mono ?_); rintro e w21 ⟨dCY, rfl, ho0, hb⟩; refine ⟨_, rfl, ?_⟩; have n0_ := am_ (Kd.aAs (rk_ (Kd.aAw (aSy (Kd.aCa NG.out wV.out (by decide)) (fun _ hk => hk.2)) (fun _ h_ => h_.1))) hb); have n1_ := am_ (Kd.aAs (rk_ (Kd.aAw (aSy (Kd.aCa a1A.out wV.out (by decide)) (fun _ hk => hk.2)) (fun _ h_ => h_.1))) hb); have pO := am_ (Kd.aBc (Kd.aOu (Kd.aOu (Kd.aDv (Kd.aDv ho0 (Kd.aHf (rk_ (Kd.aAw (aSy (Kd.aCa NG.out wV.out (by decide)) (fun _ hk => hk.2)) (fun _ h_ => h_.1))))) (Kd.aHf (rk_ (Kd.aAw (aSy (Kd.aCa a1A.out wV.out (by decide)) (fun _ hk => hk.2)) (fun _ h_ => h_.1))))) (g := a1D) (o := .cells #[.int .i64 0, .string (⟨#[]⟩ : ByteArray), .int .i64 0, .int .i64 0, .int .i64 0, .int .i64 0, .string (⟨#[]⟩ : ByteArray), .string (⟨#[]⟩ : ByteArray), .slice none 0 0, .slice none 0 0, .int .i64 0, .slice none 0 0] 42 (0, 0)) (aTv EM (aBx xH.out))) (g := aD3) (o := .cells #[.int .i64 aA, .string aD, .int .i64 bHB, .int .i64 bL1, .int .i64 bO2, .int .i64 bGU, .string bIA, .string bCM, .slice Y3 bGW.length XY, .slice bSF aJ4.length bY5, .int .i64 aW, .slice none 0 0] 42 (0, 0)) bw_) (aAj bb_)); have n3_ := am_ (aBe (g := b5G) (o := .cells #[.int .i64 aA, .string aD, .int .i64 aH, .int .i64 aK, .int .i64 aJ, .int .i64 aI, .string bC, .string bB, .slice dN bG.length dQ, .slice bZ aV.length cB, .int .i64 aW, .slice bP aM.length bM] 30 (0, 0)) (aTv MR (aBx tX.out)) hb); have n4_ := am_ (aBe (g := a1D) (o := .cells #[.int .i64 0, .string (⟨#[]⟩ : ByteArray), .int .i64 0, .int .i64 0, .int .i64 0, .int .i64 0, .string (⟨#[]⟩ : ByteArray), .string (⟨#[]⟩ : ByteArray), .slice none 0 0, .slice none 0 0, .int .i64 0, .slice none 0 0] 42 (0, 0)) (aTv EM (aBx xH.out)) hb); have n5_ := am_ (aBe (g := aD3) (o := .cells #[.int .i64 aA, .string aD, .int .i64 bHB, .int .i64 bL1, .int .i64 bO2, .int .i64 bGU, .string bIA, .string bCM, .slice Y3 bGW.length XY, .slice bSF aJ4.length bY5, .int .i64 aW, .slice none 0 0] 42 (0, 0)) bw_ hb); have n6_ := bs_ hb; clear NG; clear a1A; clear tX; clear xH; clear wV; clear HB; have NG := n0_; have a1A := n1_; have bRB := pO; have tX := n3_; have xH := n4_; have wV := n5_; have HB := n6_; clear n0_ n1_ pO n3_ n4_ n5_ n6_; clear hb ho0; obtain ⟨d56, d72, d5M⟩ := Kd.aBj bRB.out; subst d5M; obtain ⟨tC, sH, sQ, yO, yK, xO, yS, WX, WK, X0, OO, PG, sK, sV, sS, xM, yQ, xK, yM, WT, X4, WC, QD, OM⟩ := aBw wV; obtain ⟨SC, OA, PM, V8, UR, WA, VP, aR5, aTR, aP7, aIH, aD5, QW, P6, PN, XK, V7, UZ, VR, aM4, aSK, aX4, aDM, aGQ⟩ := aBw xH))
  (refine bodyPost_ret (results_cell_row rfl _ _ a1D 42 #[.int .i64 aA, .string aD, .int .i64 bHB, .int .i64 bL1, .int .i64 bO2, .int .i64 bGU, .string bIA, .string bCM, .slice Y3 bGW.length XY, .slice bSF aJ4.length bY5, .int .i64 aW, .slice d56 b8W.length d72] (0, 0) _ rfl bw_ Tryz.underlying42 rfl (by kernel_rfl)) rfl ?_)
  (exact ⟨_, _, _, rr_, by (with_reducible repeat (first | apply Kd.aBf | apply Kd.aBg | apply Kd.aBi)); exact Kd.aAw (aNj (aFc (Kd.aCa (Kd.aCa NG.out wV.out (by decide)) xH.out (by decide)) (fun _ hk => hk.1.2)) (fun _ hk => hk.2)) (fun _ hk => hk.1.1.2), by (with_reducible repeat (first | apply Kd.aBf | apply Kd.aBg | apply Kd.aBi)); exact Kd.aAw (aNj (aFc (Kd.aCa (Kd.aCa a1A.out wV.out (by decide)) xH.out (by decide)) (fun _ hk => hk.1.2)) (fun _ hk => hk.2)) (fun _ hk => hk.1.1.2), by (with_reducible repeat (first | apply Kd.aBf | apply Kd.aBg | apply Kd.aBi)); exact Kd.aAw (aNj (aFc (Kd.aAw (Kd.aAw bRB.out (fun k_ hk => (⟨hk, hk.2⟩ : _ ∧ k_ ≠ aD3))) (fun k_ hk => (⟨hk, hk.1.1.2⟩ : _ ∧ k_ ≠ a1D))) (fun _ hk => hk.1.2)) (fun _ hk => hk.2)) (fun _ hk => ⟨hk.1.1.1.1.1.2, hk.1.1.1.1.2⟩), by repeat (first | (with_reducible first | exact HB.out | apply aAi | apply aAo | apply aAm | refine aAk ?_ cDT.out | refine aAk ?_ cFI.out | refine aAk ?_ cFA.out) | exact HB.out)⟩)

def wT.f (k : Nat) (aA : ByteArray) (aD : Int) (aH : ByteArray) (aK aJ : Int) (aI bC : Int) (bB lQ : ByteArray) (aV fT : List S27) (iQ : Int) (fU : List S30) (jA : Int) (gK : List S136) : Option (ByteArray × Int × ByteArray × Int × Int × Int × Int × ByteArray × ByteArray × (List S39) × (List S39) × Int × (List S42) × Int × (List S126)) := (jF.f k aD aH aK aJ aI bC bB lQ aV fT iQ fU).bind fun nN => ((nA.f k jA gK).bind fun aDH => (some (aA, nN.1, nN.2.1, nN.2.2.1, nN.2.2.2.1, nN.2.2.2.2.1, nN.2.2.2.2.2.1, nN.2.2.2.2.2.2.1, nN.2.2.2.2.2.2.2.1, nN.2.2.2.2.2.2.2.2.1, nN.2.2.2.2.2.2.2.2.2.1, nN.2.2.2.2.2.2.2.2.2.2.1, nN.2.2.2.2.2.2.2.2.2.2.2, aDH.1, aDH.2)))
theorem wT.calls (k : Nat) (aA : ByteArray) (aD : Int) (aH : ByteArray) (aK aJ : Int) (aI bC : Int) (bB lQ : ByteArray) (bZ : Option Addr) (cB : Nat) (aV : List S27) (kG : Option Addr) (kE : Nat) (fT : List S27) (iQ : Int) (kH : Option Addr) (kF : Nat) (fU : List S30) (jA : Int) (kM : Option Addr) (kP : Nat) (gK : List S136) (r1 : ByteArray) (r2 : Int) (r3 : ByteArray) (r4 r5 : Int) (r6 r7 : Int) (r8 r9 : ByteArray) (r10 r11 : List S39) (r12 : Int) (r13 : List S42) (r14 : Int) (r15 : List S126) (w : World) (jG : Kd.C k27 w bZ aV.length aV) (jH : aV.length ≤ cB) (yV : Kd.C k27 w kG fT.length fT) (AJ : fT.length ≤ kE) (zJ : Kd.C k30 w kH fU.length fU) (yY : fU.length ≤ kF) (AU : Kd.C aNa w kM gK.length gK) (zM : gK.length ≤ kP) (h : wT.f k aA aD aH aK aJ aI bC bB lQ aV fT iQ fU jA gK = some (r1, r2, r3, r4, r5, r6, r7, r8, r9, r10, r11, r12, r13, r14, r15)) :
  Calls Tryz.prog 36 #[.agg #[.string aA, .int .i64 aD, .string aH, .int .i64 aK, .int .i64 aJ, .int .i64 aI, .int .i64 bC, .string bB, .string lQ, .slice bZ aV.length cB, .slice kG fT.length kE, .int .i64 iQ, .slice kH fU.length kF, .int .i64 jA, .slice kM gK.length kP]] w fun e w' => ∃ v9_ bJW cFU c7H : Value, e = .returned (.agg #[.string r1, .int .i64 r2, .string r3, .int .i64 r4, .int .i64 r5, .int .i64 r6, .int .i64 r7, .string r8, .string r9, v9_, bJW, .int .i64 r12, cFU, .int .i64 r14, c7H]) ∧ Kd.R jX 39 w' w.heap.size (fun k_ => some k_ ≠ (bJW : Value).ownBlock) v9_ r10 ∧ Kd.R jX 39 w' w.heap.size (fun k_ => some k_ ≠ (v9_ : Value).ownBlock) bJW r11 ∧ Kd.R E5 42 w' w.heap.size (fun k_ => some k_ ≠ (v9_ : Value).ownBlock ∧ some k_ ≠ (bJW : Value).ownBlock) cFU r13 ∧ Kd.S jU 126 w' w.heap.size (fun _ => True) c7H r15 ∧ Below w.heap.size w w' := by
 obtain ⟨bSW, b6K, b3H, MW, b38, NT⟩ := cG3
 have iR := am_ jG
 have iZ := am_ jH
 clear jG jH
 have zC := am_ yV
 have zK := am_ AJ
 clear yV AJ
 have AV := am_ zJ
 have zA := am_ yY
 clear zJ yY
 have IZ := am_ AU
 have J7 := am_ zM
 clear AU zM
 have HB := am_ (Below.refl w.heap.size w)
 have H : ((jF.f k aD aH aK aJ aI bC bB lQ aV fT iQ fU).bind fun nN => ((nA.f k jA gK).bind fun aDH => (some (aA, nN.1, nN.2.1, nN.2.2.1, nN.2.2.2.1, nN.2.2.2.2.1, nN.2.2.2.2.2.1, nN.2.2.2.2.2.2.1, nN.2.2.2.2.2.2.2.1, nN.2.2.2.2.2.2.2.2.1, nN.2.2.2.2.2.2.2.2.2.1, nN.2.2.2.2.2.2.2.2.2.2.1, nN.2.2.2.2.2.2.2.2.2.2.2, aDH.1, aDH.2)))) = some (r1, r2, r3, r4, r5, r6, r7, r8, r9, r10, r11, r12, r13, r14, r15) := h
 clear h
 replace H := aBp H
 obtain ⟨⟨cHP, c42, cGX, cM2, cCL, cAA, cJX, cCU, cAU, c8O, cCT, c5C⟩, BB, H⟩ := H
 try dsimp only at H
 have A2 := am_ BB
 clear BB
 replace H := aBp H
 obtain ⟨⟨d2D, d29⟩, wN, H⟩ := H
 try dsimp only at H
 have A3 := am_ wN
 clear wN
 simp only [Option.some.injEq, Prod.mk.injEq] at H
 obtain ⟨rfl, rfl, rfl, rfl, rfl, rfl, rfl, rfl, rfl, rfl, rfl, rfl, rfl, rfl, rfl⟩ := H
 go_enter Tryz.func36, Tryz.ntmps36
 go_wp2_with (first | ((with_reducible refine aAc (N := 1) rfl ?_); refine bx_ 1 #[.string aA, .int .i64 aD, .string aH, .int .i64 aK, .int .i64 aJ, .int .i64 aI, .int .i64 bC, .string bB, .string lQ, .slice bZ aV.length cB, .slice kG fT.length kE, .int .i64 iQ, .slice kH fU.length kF, .int .i64 jA, .slice kM gK.length kP] 79 ?_; intro bQ8 hg w4 hbox hb; have DV := am_ (hbox); have c6K := gw_ hg; replace HB := bs_ hb; clear hb hbox hg) | ((with_reducible refine aAc (N := 2) rfl ?_); refine bx_ 2 #[.string (⟨#[]⟩ : ByteArray), .int .i64 0, .string (⟨#[]⟩ : ByteArray), .int .i64 0, .int .i64 0, .int .i64 0, .int .i64 0, .string (⟨#[]⟩ : ByteArray), .string (⟨#[]⟩ : ByteArray), .slice none 0 0, .slice none 0 0, .int .i64 0, .slice none 0 0, .int .i64 0, .slice none 0 0] 83 ?_; intro b8X hg w5 hbox hb; have EP := am_ (hbox); have cI7 := gw_ hg; have aYG := nl_ hg DV; have b05 := ng_ hg DV; replace DV := aAt DV hb; replace HB := bs_ hb; clear hb hbox hg) | ((with_reducible refine aAc (N := 3) rfl ?_); refine bx_ 3 #[.string (⟨#[]⟩ : ByteArray), .int .i64 0, .string (⟨#[]⟩ : ByteArray), .int .i64 0, .int .i64 0, .int .i64 0, .int .i64 0, .string (⟨#[]⟩ : ByteArray), .string (⟨#[]⟩ : ByteArray), .slice none 0 0, .slice none 0 0, .int .i64 0, .slice none 0 0, .int .i64 0, .slice none 0 0] 83 ?_; intro bPQ hg w6 hbox hb; have EJ := am_ (hbox); have cBT := gw_ hg; have a1U := nl_ hg DV; have aZX := ng_ hg DV; have a15 := nl_ hg EP; have b0F := ng_ hg EP; replace DV := aAt DV hb; replace EP := aAt EP hb; replace HB := bs_ hb; clear hb hbox hg; have bKU := aYG.out; have bJT := b05.out; have aJF := a1U.out; have aJ2 := aZX.out; obtain ⟨mX, nC, xB, K7, JW, KA, IY, b8V, b9Z, b1C, aM7, aPL, bL2, bH4, bNN, nH, nG, x9, JG, JO, J6, II, b41, b2U, b5Q, aN6, aNK, bJ7, bJ3, bMO⟩ := aHm DV; have aPS := b0F.out; have aSU := a15.out; obtain ⟨CX, DR, KG, LK, LJ, LV, KW, bN2, bLC, bCU, b69, b4Q, b5M, b8Q, b94, BV, D5, KN, MN, KX, LG, L6, bDC, bF1, bC9, bA7, b4J, b65, b3I, b4A⟩ := aHm EJ) | ((with_reducible refine aAa (f := 9) rfl ?_); refine aBh (some 9) Tryz.func9 #[.agg #[.int .i64 aD, .string aH, .int .i64 aK, .int .i64 aJ, .int .i64 aI, .int .i64 bC, .string bB, .string lQ, .slice bZ aV.length cB, .slice kG fT.length kE, .int .i64 iQ, .slice kH fU.length kF]] ?_; (with_reducible refine (jF.calls _ _ _ _ _ _ _ _ _ _ _ _ _ _ _ _ _ _ _ _ _ _ _ _ _ _ _ _ _ _ _ _ (Kd.aAp iR.out bb_) iZ.out (Kd.aAp zC.out bb_) zK.out (Kd.aAp AV.out bb_) zA.out A2.out).mono ?_); rintro e w12 ⟨dBZ, dDH, dCN, rfl, ho0, ho1, ho2, hb⟩; refine ⟨_, rfl, ?_⟩; have aHH := am_ (Kd.aBc ho0 (aAj bb_)); have aG1 := am_ (Kd.aBc ho1 (aAj bb_)); have aCV := am_ (Kd.aBc ho2 (aAj bb_)); replace DV := am_ (aBe (g := bQ8) (o := .cells #[.string aA, .int .i64 aD, .string aH, .int .i64 aK, .int .i64 aJ, .int .i64 aI, .int .i64 bC, .string bB, .string lQ, .slice bZ aV.length cB, .slice kG fT.length kE, .int .i64 iQ, .slice kH fU.length kF, .int .i64 jA, .slice kM gK.length kP] 79 (0, 0)) (aQk a1U (aBx DV.out)) hb); replace EP := am_ (aBe (g := b8X) (o := .cells #[.string (⟨#[]⟩ : ByteArray), .int .i64 0, .string (⟨#[]⟩ : ByteArray), .int .i64 0, .int .i64 0, .int .i64 0, .int .i64 0, .string (⟨#[]⟩ : ByteArray), .string (⟨#[]⟩ : ByteArray), .slice none 0 0, .slice none 0 0, .int .i64 0, .slice none 0 0, .int .i64 0, .slice none 0 0] 83 (0, 0)) (aQk a15 (aBx EP.out)) hb); replace EJ := am_ (aBe (g := bPQ) (o := .cells #[.string aA, .int .i64 0, .string (⟨#[]⟩ : ByteArray), .int .i64 0, .int .i64 0, .int .i64 0, .int .i64 0, .string (⟨#[]⟩ : ByteArray), .string (⟨#[]⟩ : ByteArray), .slice none 0 0, .slice none 0 0, .int .i64 0, .slice none 0 0, .int .i64 0, .slice none 0 0] 83 (0, 0)) bw_ hb); replace HB := bs_ hb; clear hb ho0 ho1 ho2; obtain ⟨MU, KT, a9N, a3W, aAV, a88, a8F, cXM, cXQ, cTJ, cFY, cBE, cH0, cCD, cHS, LB, KJ, aBT, a6Z, a9W, a2F, a6K, cVM, cR1, d09, c5G, cCY, cC7, cBL, c8X⟩ := aHm EJ; obtain ⟨a0P, a03, b1E⟩ := Kd.aBj aHH.out; subst b1E; obtain ⟨Y3, XY, b3M⟩ := Kd.aBj aG1.out; subst b3M; obtain ⟨bO6, bEQ, bZH⟩ := Kd.aBj aCV.out; subst bZH; obtain ⟨uE, sJ, vV, BQ, DN, D7, C9, cNY, cTT, cXL, cIE, cHG, c6A, cFR, cCG, tL, uF, vS, BP, DU, CS, BU, cWB, cUJ, cN1, c6E, cHK, cCB, cJ2, cKL⟩ := aHm DV) | ((with_reducible refine aAa (f := 51) rfl ?_); refine aBh (some 13) Tryz.func51 #[.agg #[.int .i64 jA, .slice kM gK.length kP]] ?_; (with_reducible refine (nA.calls _ _ _ _ _ _ _ _ (Kd.aAp IZ.out bb_) J7.out A3.out).mono ?_); rintro e w18 ⟨dBX, rfl, ho0, hb⟩; refine ⟨_, rfl, ?_⟩; have n0_ := am_ (Kd.aAs (rk_ (Kd.aAw (aNj (Kd.aCa aHH.out EJ.out (by decide)) (fun _ hk => hk.2)) (fun _ h_ => h_.1))) hb); have n1_ := am_ (Kd.aAs (rk_ (Kd.aAw (aNj (Kd.aCa aG1.out EJ.out (by decide)) (fun _ hk => hk.2)) (fun _ h_ => h_.1))) hb); have pO := am_ (Kd.aAs (rk_ (Kd.aAw (aNj (Kd.aCa aCV.out EJ.out (by decide)) (fun _ hk => hk.2)) (fun _ h_ => h_.1))) hb); have n3_ := am_ (Kd.aHs ho0 (aAj bb_)); have n4_ := am_ (aBe (g := bQ8) (o := .cells #[.string aA, .int .i64 aD, .string aH, .int .i64 aK, .int .i64 aJ, .int .i64 aI, .int .i64 bC, .string bB, .string lQ, .slice bZ aV.length cB, .slice kG fT.length kE, .int .i64 iQ, .slice kH fU.length kF, .int .i64 jA, .slice kM gK.length kP] 79 (0, 0)) bw_ hb); have n5_ := am_ (aBe (g := b8X) (o := .cells #[.string (⟨#[]⟩ : ByteArray), .int .i64 0, .string (⟨#[]⟩ : ByteArray), .int .i64 0, .int .i64 0, .int .i64 0, .int .i64 0, .string (⟨#[]⟩ : ByteArray), .string (⟨#[]⟩ : ByteArray), .slice none 0 0, .slice none 0 0, .int .i64 0, .slice none 0 0, .int .i64 0, .slice none 0 0] 83 (0, 0)) bw_ hb); have n6_ := am_ (aBe (g := bPQ) (o := .cells #[.string aA, .int .i64 cHP, .string c42, .int .i64 cGX, .int .i64 cM2, .int .i64 cCL, .int .i64 cAA, .string cJX, .string cCU, .slice a0P cAU.length a03, .slice Y3 c8O.length XY, .int .i64 cCT, .slice bO6 c5C.length bEQ, .int .i64 0, .slice none 0 0] 83 (0, 0)) bw_ hb); have n7_ := bs_ hb; clear aHH; clear aG1; clear aCV; clear DV; clear EP; clear EJ; clear HB; have aHH := n0_; have aG1 := n1_; have aCV := pO; have bQU := n3_; have DV := n4_; have EP := n5_; have EJ := n6_; have HB := n7_; clear n0_ n1_ pO n3_ n4_ n5_ n6_ n7_; clear hb ho0; obtain ⟨yC, yG, yI, CK, C8, DL, CZ, QE, PO, R8, IL, J2, b0U, b66, b1G, xX, xR, yF, BO, BS, CR, CO, O3, PP, PV, JD, J5, bAK, b98, bAM⟩ := aHm EJ; obtain ⟨cHL, cLQ, c1U⟩ := Kd.aJh bQU.out; subst c1U; obtain ⟨uD, uC, y7, LQ, LC, KY, MF, Q9, OY, O5, IB, I9, aFY, aDX, aGD, tZ, sU, yA, KV, MJ, M4, KS, OU, R6, NZ, JS, JP, aCK, aEP, aE5⟩ := aHm EP))
 refine bodyPost_ret (results_cell_row rfl _ _ b8X 83 #[.string aA, .int .i64 cHP, .string c42, .int .i64 cGX, .int .i64 cM2, .int .i64 cCL, .int .i64 cAA, .string cJX, .string cCU, .slice a0P cAU.length a03, .slice Y3 c8O.length XY, .int .i64 cCT, .slice bO6 c5C.length bEQ, .int .i64 d2D, .slice cHL d29.length cLQ] (0, 0) _ rfl bw_ Tryz.underlying83 rfl (by kernel_rfl)) rfl ?_
 exact ⟨_, _, _, _, rr_, by (with_reducible repeat (first | apply Kd.aBf | apply Kd.aBg | apply Kd.aBi)); exact Kd.aAw (aTf (aSy (Kd.aCa (Kd.aCa aHH.out EJ.out (by decide)) EP.out (by decide)) (fun _ hk => hk.1.2)) (fun _ hk => hk.2)) (fun _ hk => hk.1.1), by (with_reducible repeat (first | apply Kd.aBf | apply Kd.aBg | apply Kd.aBi)); exact Kd.aAw (aTf (aSy (Kd.aCa (Kd.aCa aG1.out EJ.out (by decide)) EP.out (by decide)) (fun _ hk => hk.1.2)) (fun _ hk => hk.2)) (fun _ hk => hk.1.1), by (with_reducible repeat (first | apply Kd.aBf | apply Kd.aBg | apply Kd.aBi)); exact Kd.aAw (aTf (aSy (Kd.aCa (Kd.aCa aCV.out EJ.out (by decide)) EP.out (by decide)) (fun _ hk => hk.1.2)) (fun _ hk => hk.2)) (fun _ hk => ⟨hk.1.1.1, hk.1.1.2⟩), by (with_reducible repeat (first | apply Kd.aGt | apply Kd.aGu | apply Kd.aJl)); exact Kd.aKm (aYd (aYe (Kd.aHv (Kd.aHv bQU.out EJ.out (by decide)) EP.out (by decide)) (fun _ hk => hk.1.2)) (fun _ hk => hk.2)) (fun _ hk => trivial), by repeat (first | (with_reducible first | exact HB.out | apply aAi | apply aAo | apply aAm | refine aAk ?_ c6K.out | refine aAk ?_ cI7.out | refine aAk ?_ cBT.out) | exact HB.out)⟩

def dV.l0 : Nat → List S79 → List S83 → Int → Option ((List S83))
 | 0, _, _, _ => none
 | k + 1, x0, x3, x4 => if x4 < (x0.length : Int) then (if 0 ≤ x4 then ((wT.f k ((bH x0 x4).f0) ((bH x0 x4).f1.f0) ((bH x0 x4).f1.f1) ((bH x0 x4).f1.f2.f0) ((bH x0 x4).f1.f2.f1) ((bH x0 x4).f1.f2.f2.f0) ((bH x0 x4).f1.f2.f2.f1) ((bH x0 x4).f1.f2.f2.f2) ((bH x0 x4).f1.f2.f3) ((bH x0 x4).f1.f2.f4) ((bH x0 x4).f1.f3) ((bH x0 x4).f1.f4) ((bH x0 x4).f1.f5) ((bH x0 x4).f2.f0) ((bH x0 x4).f2.f1)).bind fun AZ => (if x4 < (x3.length : Int) then (dV.l0 k x0 (x3.set (x4 : Int).toNat (⟨AZ.1, (⟨AZ.2.1, AZ.2.2.1, (⟨AZ.2.2.2.1, AZ.2.2.2.2.1, (⟨AZ.2.2.2.2.2.1, AZ.2.2.2.2.2.2.1, AZ.2.2.2.2.2.2.2.1⟩ : S36), AZ.2.2.2.2.2.2.2.2.1, AZ.2.2.2.2.2.2.2.2.2.1⟩ : S39), AZ.2.2.2.2.2.2.2.2.2.2.1, AZ.2.2.2.2.2.2.2.2.2.2.2.1, AZ.2.2.2.2.2.2.2.2.2.2.2.2.1⟩ : S42), (⟨AZ.2.2.2.2.2.2.2.2.2.2.2.2.2.1, AZ.2.2.2.2.2.2.2.2.2.2.2.2.2.2⟩ : S66)⟩ : S83)) (wrap64 (x4 + 1))) else (none))) else (none)) else (some x3)
def dV.f (k : Nat) (l0 : List S79) : Option ((List S83)) := if 0 ≤ (l0.length : Int) then (if ((l0.length : Int) : Int).toNat ≤ 1303124892178 then (dV.l0 k l0 (List.replicate ((l0.length : Int) : Int).toNat z83) 0) else (none)) else (none)
theorem dV.calls (k : Nat) (A0 : Option Addr) (c0 : Nat) (l0 : List S79) (r : List S83) (w : World) (hr0 : Kd.C k79 w A0 l0.length l0) (hc0 : l0.length ≤ c0) (h : dV.f k l0 = some r) :
  Calls Tryz.prog 15 #[.slice A0 l0.length c0] w fun e w' => ∃ I7 : Value, e = .returned (I7) ∧ Kd.R X8 83 w' w.heap.size (fun _ => True) I7 r ∧ Below w.heap.size w w' := by
 obtain ⟨bSW, b6K⟩ := cEQ
 have jY := am_ hr0
 have oQ := am_ hc0
 clear hr0 hc0
 have HB := am_ (Below.refl w.heap.size w)
 have H : (if 0 ≤ (l0.length : Int) then (if ((l0.length : Int) : Int).toNat ≤ 1303124892178 then (dV.l0 k l0 (List.replicate ((l0.length : Int) : Int).toNat z83) 0) else (none)) else (none)) = some r := h
 clear h
 by_cases c2 : 0 ≤ (l0.length : Int)
 ·rw [if_pos c2] at H
  have qD := eq_true c2; have JA := decide_eq_true c2; clear c2
  by_cases c3 : ((l0.length : Int) : Int).toNat ≤ 1303124892178
  ·rw [if_pos c3] at H
   have fC := eq_true c3; have lI := decide_eq_true c3; clear c3; obtain ⟨c6T, aEM⟩ : ∃ y_ : List S83, y_ = (List.replicate ((l0.length : Int) : Int).toNat z83) := ⟨_, rfl⟩; (replace H : (dV.l0 k l0 c6T 0) = some r := by first | (rw [aEM]; with_reducible exact H) | (have jC := (Option.bind_some _ _).symm.trans H; rw [aEM]; with_reducible exact jC) | (have jC := (Option.bind_some _ _).symm.trans H; with_reducible exact jC) | with_reducible exact H | (rw [aEM]; exact H) | exact H); have bPJ := am_ aEM; clear aEM; have H' := am_ H; clear H
   go_enter Tryz.func15, Tryz.ntmps15
   go_wp2_with (first | ((with_reducible refine aAc (N := 7) rfl ?_); refine Kd.aKq X8 _ 83 rfl (N := 7) rfl 50 _ _ rfl (l0.length : Int) rfl rfl Tryz.underlying50 (.agg #[(.string ⟨#[]⟩), (.int .i64 0), (.string ⟨#[]⟩), (.int .i64 0), (.int .i64 0), (.int .i64 0), (.int .i64 0), (.string ⟨#[]⟩), (.string ⟨#[]⟩), (.slice none 0 0), (.slice none 0 0), (.int .i64 0), (.slice none 0 0), (.int .i64 0), (.slice none 0 0)]) 216 bTC rfl (by decide) (by omega) z83 (ok := fun _ => True) (okp := fun _ => True) (aPW _ _ _ z83 (Kd.aFr _ _ _ _ _) (Kd.aFr _ _ _ _ _) (Kd.aFr _ _ _ _ _) (Kd.aFr _ _ _ _ _)) (fun _ hk => hk) trivial (oa_) (Nat.le_trans (Nat.mul_le_mul_right _ (oa_ : (l0.length : Int).toNat ≤ 1303124892178)) (by omega)) (Below.refl _ _) (Nat.le_refl _) ?_; intro d2M w4 EY hb DZ j4; clear DZ j4; (first | rw [← bPJ.out] at EY | (simp only [Int.reduceToNat] at EY; rw [← bPJ.out] at EY)); have c66 := am_ (Kd.aBc EY (aAj bb_)); replace HB := bs_ hb; clear hb EY))
   go_loopg [4] k (fun kq v4 w' => ∃ (bA : List S83) (aT : Int), v4 = .int .i64 aT ∧ Aside0 (dV.l0 kq l0 bA aT = some r) ∧ Aside0 (kq ≤ k) ∧ Aside0 (Kd.R X8 83 w' w.heap.size (fun _ => True) d2M bA) ∧ Aside0 (Below w.heap.size w w'))
   case atStart => exact ⟨(c6T), (0), rs_, H', ⟨Nat.le_refl _⟩, ⟨by (with_reducible repeat (first | apply Kd.aBf | apply Kd.aBg | apply Kd.aBi)); exact c66.out⟩, ⟨bb_⟩⟩
   case round =>
    clear H'; (try clear c1); (try clear c2); (try clear qD); (try clear JA); (try clear p2); (try clear c3); (try clear fC); (try clear lI); obtain ⟨bA, aT, rfl, HA, jK, dS, HB⟩ := hrel
    cases gk with
    | zero => exact absurd HA.out (by simp [dV.l0])
    | succ k1 =>
     have H := HA.out; clear HA; simp only [dV.l0] at H
     by_cases c6 : aT < (l0.length : Int)
     ·rw [if_pos c6] at H
      have mY := decide_eq_true c6; clear c6
      by_cases c7 : 0 ≤ aT
      ·rw [if_pos c7] at H
       have iV := decide_eq_true c7; clear c7; replace H := aBp H; obtain ⟨⟨b5Z, b50, b8H, b6T, b45, bAF, b6L, b9H, b4T, aZ2, aZ8, b2C, aYY, b95, aZ1⟩, RY, H⟩ := H
       try dsimp only at H
       have A8 := am_ RY; clear RY
       by_cases c9 : aT < (bA.length : Int)
       ·rw [if_pos c9] at H
        have xC := decide_eq_true c9; clear c9; obtain ⟨c1I, aGS⟩ : ∃ y_ : List S83, y_ = (bA.set (aT : Int).toNat (⟨b5Z, (⟨b50, b8H, (⟨b6T, b45, (⟨bAF, b6L, b9H⟩ : S36), b4T, aZ2⟩ : S39), aZ8, b2C, aYY⟩ : S42), (⟨b95, aZ1⟩ : S66)⟩ : S83)) := ⟨_, rfl⟩; (replace H : (dV.l0 k1 l0 c1I (wrap64 (aT + 1))) = some r := by first | (rw [aGS]; with_reducible exact H) | (have jC := (Option.bind_some _ _).symm.trans H; rw [aGS]; with_reducible exact jC) | (have jC := (Option.bind_some _ _).symm.trans H; with_reducible exact jC) | with_reducible exact H | (rw [aGS]; exact H) | exact H); have c3O := am_ aGS; clear aGS; have H' := am_ H; clear H; (have bX0 : 0 ≤ (aT : Int) := oa_); (have bSL : aT < (l0.length : Int) := oa_); obtain ⟨d9C, bZJ, bSN, bI0, bDA, bFK, bG6, bLO, bJB, d50, aXO, aUG, aQX, aSN, aKB, aKQ, aTL, aRG, aVB, aLW, aI9, aFC, aDI, aFT, aGB, aMO, aKY, aHU, aFR, aIO, aCD, aDU, aG4⟩ := b6P jY.out aT bX0 bSL; cases d50; obtain ⟨aXO, aUG, aQX, aSN, aKB, aKQ, aTL, aRG, aVB, aLW, aI9, aFC, aDI, aFT, aGB⟩ := aKe HB aXO aUG aQX aSN aKB aKQ aTL aRG aVB aLW aI9 aFC aDI aFT aGB; have bIQ := am_ aKY; have bCN := am_ aMO; clear aKY aMO; have b8L := am_ aFR; have b9Q := am_ aHU; clear aFR aHU; have b4K := am_ aCD; have b5T := am_ aIO; clear aCD aIO; have b8R := am_ aG4; have b48 := am_ aDU; clear aG4 aDU; replace bX0 := eq_true bX0; replace bSL := eq_true bSL
        go_wp2_with (first | ((with_reducible refine aAa (f := 36) rfl ?_); refine aBh (some 20) Tryz.func36 #[.agg #[.string ((bH l0 aT).f0), .int .i64 ((bH l0 aT).f1.f0), .string ((bH l0 aT).f1.f1), .int .i64 ((bH l0 aT).f1.f2.f0), .int .i64 ((bH l0 aT).f1.f2.f1), .int .i64 ((bH l0 aT).f1.f2.f2.f0), .int .i64 ((bH l0 aT).f1.f2.f2.f1), .string ((bH l0 aT).f1.f2.f2.f2), .string ((bH l0 aT).f1.f2.f3), .slice bZJ ((bH l0 aT).f1.f2.f4).length bSN, .slice bI0 ((bH l0 aT).f1.f3).length bDA, .int .i64 ((bH l0 aT).f1.f4), .slice bFK ((bH l0 aT).f1.f5).length bG6, .int .i64 ((bH l0 aT).f2.f0), .slice bLO ((bH l0 aT).f2.f1).length bJB]] ?_; (with_reducible refine (wT.calls _ _ _ _ _ _ _ _ _ _ _ _ _ _ _ _ _ _ _ _ _ _ _ _ _ _ _ _ _ _ _ _ _ _ _ _ _ _ _ _ (cb_ bIQ HB) bCN.out (cb_ b8L HB) b9Q.out (cb_ b4K HB) b5T.out (cb_ b8R HB) b48.out A8.out).mono ?_); rintro e jI ⟨dDE, dD4, dDT, dDP, rfl, ho0, ho1, ho2, ho3, hb⟩; refine ⟨_, rfl, ?_⟩; have b9O := am_ (Kd.aBc ho0 (aAj bb_)); have b6D := am_ (Kd.aBc ho1 (aAj bb_)); have b51 := am_ (Kd.aBc ho2 (aAj bb_)); have b2S := am_ (Kd.aHs ho3 (aAj bb_)); replace dS := am_ (Kd.aAw (Kd.aIc (Kd.aIc (Kd.aIc (Kd.aIc (Kd.aVg (rk_ dS.out) hb) (Kd.aCn ho0)) (Kd.aCn ho1)) (Kd.aCn ho2)) (Kd.aUa ho3)) (fun _ h_ => h_.1)); replace HB := bs_ hb; clear hb ho0 ho1 ho2 ho3; have ZQ : 0 ≤ (aT : Int) := oa_; have ZC : (aT : Int) < ((bA.length : Int) : Int) := oa_; obtain ⟨cO, DY, DX, JK, Y4, b5P, JC⟩ := Kd.aIf dS.out (by omega); (first | cases DX | (injection DX with rW SI TD; (first | subst rW | (injection rW with rW; subst rW)); subst TD; clear SI)); have lC := am_ JK; have b2H := am_ JC; clear JK Y4 JC; obtain ⟨b52, J3, IE, gP, gM⟩ := Kd.aFv dS.out z83 (aT : Int) ZQ ZC; obtain ⟨aJ3, bJF, bIK, bKJ, rfl, bV8, cUB, cY6, d16⟩ := a1X IE; have YJ : jI.cell? ⟨cO, (aT : Int).toNat * 15, none⟩ = some (.string ((aAl bA aT).f0)) := gP 0 _ rfl; have Y2 : jI.cell? ⟨cO, (aT : Int).toNat * 15 + 1, none⟩ = some (.int .i64 ((aAl bA aT).f1.f0)) := gP 1 _ rfl; have a6P : jI.cell? ⟨cO, (aT : Int).toNat * 15 + 2, none⟩ = some (.string ((aAl bA aT).f1.f1)) := gP 2 _ rfl; have b2Z : jI.cell? ⟨cO, (aT : Int).toNat * 15 + 3, none⟩ = some (.int .i64 ((aAl bA aT).f1.f2.f0)) := gP 3 _ rfl; have b5C : jI.cell? ⟨cO, (aT : Int).toNat * 15 + 4, none⟩ = some (.int .i64 ((aAl bA aT).f1.f2.f1)) := gP 4 _ rfl; have b9E : jI.cell? ⟨cO, (aT : Int).toNat * 15 + 5, none⟩ = some (.int .i64 ((aAl bA aT).f1.f2.f2.f0)) := gP 5 _ rfl; have b0P : jI.cell? ⟨cO, (aT : Int).toNat * 15 + 6, none⟩ = some (.int .i64 ((aAl bA aT).f1.f2.f2.f1)) := gP 6 _ rfl; have bRY : jI.cell? ⟨cO, (aT : Int).toNat * 15 + 7, none⟩ = some (.string ((aAl bA aT).f1.f2.f2.f2)) := gP 7 _ rfl; have bUW : jI.cell? ⟨cO, (aT : Int).toNat * 15 + 8, none⟩ = some (.string ((aAl bA aT).f1.f2.f3)) := gP 8 _ rfl; have bSO : jI.cell? ⟨cO, (aT : Int).toNat * 15 + 9, none⟩ = some (aJ3) := gP 9 _ rfl; have bJ0 : jI.cell? ⟨cO, (aT : Int).toNat * 15 + 10, none⟩ = some (bJF) := gP 10 _ rfl; have bNV : jI.cell? ⟨cO, (aT : Int).toNat * 15 + 11, none⟩ = some (.int .i64 ((aAl bA aT).f1.f4)) := gP 11 _ rfl; have d0L : jI.cell? ⟨cO, (aT : Int).toNat * 15 + 12, none⟩ = some (bIK) := gP 12 _ rfl; have cPD : jI.cell? ⟨cO, (aT : Int).toNat * 15 + 13, none⟩ = some (.int .i64 ((aAl bA aT).f2.f0)) := gP 13 _ rfl; have cOO : jI.cell? ⟨cO, (aT : Int).toNat * 15 + 14, none⟩ = some (bKJ) := gP 14 _ rfl; have XT : jI.frozen? ⟨cO, (aT : Int).toNat * 15, none⟩ = false := gM 0; have YN : jI.frozen? ⟨cO, (aT : Int).toNat * 15 + 1, none⟩ = false := gM 1; have aAU : jI.frozen? ⟨cO, (aT : Int).toNat * 15 + 2, none⟩ = false := gM 2; have b4N : jI.frozen? ⟨cO, (aT : Int).toNat * 15 + 3, none⟩ = false := gM 3; have b47 : jI.frozen? ⟨cO, (aT : Int).toNat * 15 + 4, none⟩ = false := gM 4; have b6N : jI.frozen? ⟨cO, (aT : Int).toNat * 15 + 5, none⟩ = false := gM 5; have b3X : jI.frozen? ⟨cO, (aT : Int).toNat * 15 + 6, none⟩ = false := gM 6; have bYF : jI.frozen? ⟨cO, (aT : Int).toNat * 15 + 7, none⟩ = false := gM 7; have bRS : jI.frozen? ⟨cO, (aT : Int).toNat * 15 + 8, none⟩ = false := gM 8; have bRT : jI.frozen? ⟨cO, (aT : Int).toNat * 15 + 9, none⟩ = false := gM 9; have bDZ : jI.frozen? ⟨cO, (aT : Int).toNat * 15 + 10, none⟩ = false := gM 10; have bJI : jI.frozen? ⟨cO, (aT : Int).toNat * 15 + 11, none⟩ = false := gM 11; have cR9 : jI.frozen? ⟨cO, (aT : Int).toNat * 15 + 12, none⟩ = false := gM 12; have cPM : jI.frozen? ⟨cO, (aT : Int).toNat * 15 + 13, none⟩ = false := gM 13; have cNN : jI.frozen? ⟨cO, (aT : Int).toNat * 15 + 14, none⟩ = false := gM 14; clear J3 gP gM IE; replace ZQ := eq_true ZQ; replace ZC := eq_true ZC; obtain ⟨qZ, qN, H9⟩ := Kd.aJh b2S.out; subst H9; obtain ⟨a5E, a4B, b2A⟩ := Kd.aBj b51.out; subst b2A; obtain ⟨a0P, a03, b1E⟩ := Kd.aBj b6D.out; subst b1E; obtain ⟨Y3, XY, b3M⟩ := Kd.aBj b9O.out; subst b3M; have n_ := am_ (Kd.aAw (ok' := (fun k_ => some k_ ≠ (.slice Y3 aZ2.length XY : Value).ownBlock ∧ some k_ ≠ (.slice a0P aZ8.length a03 : Value).ownBlock ∧ some k_ ≠ (.slice a5E aYY.length a4B : Value).ownBlock ∧ some k_ ≠ (.slice qZ aZ1.length qN : Value).ownBlock)) dS.out (fun k_ hk => ⟨hk.1.1.1.2, ⟨hk.1.1.2, ⟨hk.1.2, hk.2⟩⟩⟩)); clear dS; have dS := n_; clear n_; have c3U := am_ (show Kd.R X8 83 jI w.heap.size (fun _ => True) (.slice (some ⟨cO, 0, none⟩) bA.length DY) bA from (rk_ (Kd.aAw dS.out (fun _ hk => trivial)))); obtain ⟨dD5, bPA, cEY, wY, xE⟩ := Kd.aFv c3U.out z83 (aT : Int) (oa_) (by have h_ : (aT : Int) < ((bA.length : Int) : Int) := oa_; first | exact h_ | (have e_ := (Kd.aAr dS.out).1; omega) | simpa using h_); obtain ⟨d3O, cY1, cOW, cYW, rfl, d35, d0Z, cV6, cPZ⟩ := a1X cEY; have c2A := Kd.aPx c3U.out (aT : Int) (oa_) (by have h_ : (aT : Int) < ((bA.length : Int) : Int) := oa_; first | exact h_ | (have e_ := (Kd.aAr dS.out).1; omega) | simpa using h_) (seg := [.string b5Z, .int .i64 b50, .string b8H, .int .i64 b6T, .int .i64 b45, .int .i64 bAF, .int .i64 b6L, .string b9H, .string b4T, .slice Y3 aZ2.length XY, .slice a0P aZ8.length a03, .int .i64 b2C, .slice a5E aYY.length a4B, .int .i64 b95, .slice qZ aZ1.length qN]) (j := 0) bPA wY (show 15 ≤ 15 from by decide) (x' := (⟨b5Z, (⟨b50, b8H, (⟨b6T, b45, (⟨bAF, b6L, b9H⟩ : S36), b4T, aZ2⟩ : S39), aZ8, b2C, aYY⟩ : S42), (⟨b95, aZ1⟩ : S66)⟩ : S83)) (aPW _ _ _ (⟨b5Z, (⟨b50, b8H, (⟨b6T, b45, (⟨bAF, b6L, b9H⟩ : S36), b4T, aZ2⟩ : S39), aZ8, b2C, aYY⟩ : S42), (⟨b95, aZ1⟩ : S66)⟩ : S83) (Kd.aAw (Kd.aEh (b9O.out) (Kd.aGe dS.out) (by decide)) (fun k_ hk => ⟨trivial, fun e_ => (hk.2) (by rw [e_]; rfl)⟩)) (Kd.aAw (Kd.aEh (b6D.out) (Kd.aGe dS.out) (by decide)) (fun k_ hk => ⟨trivial, fun e_ => (hk.2) (by rw [e_]; rfl)⟩)) (Kd.aAw (Kd.aEh (b51.out) (Kd.aGe dS.out) (by decide)) (fun k_ hk => ⟨trivial, fun e_ => (hk.2) (by rw [e_]; rfl)⟩)) (Kd.aAw (Kd.aEh ((Kd.S_R b2S.out)) (Kd.aGe dS.out) (by decide)) (fun k_ hk => ⟨trivial, fun e_ => (hk.2) (by rw [e_]; rfl)⟩))) (fun _ hk => hk); have bVK := wY 0 _ rfl; have bXU := xE 0; have bUQ := wY 1 _ rfl; have bS2 := xE 1; have bVZ := wY 2 _ rfl; have c0E := xE 2; have bVJ := wY 3 _ rfl; have bYE := xE 3; have bXC := wY 4 _ rfl; have c1O := xE 4; have bRP := wY 5 _ rfl; have bTJ := xE 5; have bZ7 := wY 6 _ rfl; have bT4 := xE 6; have bZS := wY 7 _ rfl; have bWL := xE 7; have c0J := wY 8 _ rfl; have bWI := xE 8; have bXS := wY 9 _ rfl; have bZC := xE 9; have bEK := wY 10 _ rfl; have bAV := xE 10; have bBK := wY 11 _ rfl; have bFU := xE 11; have bIN := wY 12 _ rfl; have bH1 := xE 12; have bFZ := wY 13 _ rfl; have bCV := xE 13; have bLB := wY 14 _ rfl; have bLQ := xE 14; (try simp only [show (X8).sz = 15 from rfl, Nat.mul_one, Nat.add_zero] at bVK bXU bUQ bS2 bVZ c0E bVJ bYE bXC c1O bRP bTJ bZ7 bT4 bZS bWL c0J bWI bXS bZC bEK bAV bBK bFU bIN bH1 bFZ bCV bLB bLQ); clear bPA wY xE cEY) | ((with_reducible refine aDn (t := 83) (p := 21) rfl ?_); refine aCy (t := 83) (p := 21) (v := ?d2A) (w1 := (((((((((((((((jI.setCell ⟨cO, (aT : Int).toNat * 15, none⟩ (.string b5Z)).setCell ⟨cO, (aT : Int).toNat * 15 + 1, none⟩ (.int .i64 b50)).setCell ⟨cO, (aT : Int).toNat * 15 + 2, none⟩ (.string b8H)).setCell ⟨cO, (aT : Int).toNat * 15 + 3, none⟩ (.int .i64 b6T)).setCell ⟨cO, (aT : Int).toNat * 15 + 4, none⟩ (.int .i64 b45)).setCell ⟨cO, (aT : Int).toNat * 15 + 5, none⟩ (.int .i64 bAF)).setCell ⟨cO, (aT : Int).toNat * 15 + 6, none⟩ (.int .i64 b6L)).setCell ⟨cO, (aT : Int).toNat * 15 + 7, none⟩ (.string b9H)).setCell ⟨cO, (aT : Int).toNat * 15 + 8, none⟩ (.string b4T)).setCell ⟨cO, (aT : Int).toNat * 15 + 9, none⟩ (.slice Y3 aZ2.length XY)).setCell ⟨cO, (aT : Int).toNat * 15 + 10, none⟩ (.slice a0P aZ8.length a03)).setCell ⟨cO, (aT : Int).toNat * 15 + 11, none⟩ (.int .i64 b2C)).setCell ⟨cO, (aT : Int).toNat * 15 + 12, none⟩ (.slice a5E aYY.length a4B)).setCell ⟨cO, (aT : Int).toNat * 15 + 13, none⟩ (.int .i64 b95)).setCell ⟨cO, (aT : Int).toNat * 15 + 14, none⟩ (.slice qZ aZ1.length qN))) ?hg ?ho ?hn ?hr ?_; (case ho => rfl); (case hg => rfl); (case hn => rfl); (case hr => first | (go_simp; done) | (go_simp; rfl)); intro w17 hw; have hg : jI.grownBy w17 (some cO) := (by rw [hw]; exact c2A.2); have ZG : Kd.R X8 83 w17 w.heap.size (fun _ => True) (.slice (some ⟨cO, 0, none⟩) bA.length DY) c1I := (by rw [hw, c3O.out]; exact c2A.1); clear c2A; replace dS := am_ (ZG); replace HB := am_ ((by rw [hw]; exact aAk (aAk (aAk (aAk (aAk (aAk (aAk (aAk (aAk (aAk (aAk (aAk (aAk (aAk (aAk (HB.out) lC.out) lC.out) lC.out) lC.out) lC.out) lC.out) lC.out) lC.out) lC.out) lC.out) lC.out) lC.out) lC.out) lC.out) lC.out : Below w.heap.size w w17)); clear b9O b6D b51 b2S; clear hg hw ZG))
        go_roundg k1
        case measure => have := jK.out; omega
        case rel => exact ⟨(c1I), (wrap64 (aT + 1)), rs_, H', ⟨by have := jK.out; omega⟩, ⟨by (with_reducible repeat (first | apply Kd.aBf | apply Kd.aBg | apply Kd.aBi)); exact dS.out⟩, ⟨bb_⟩⟩
       ·rw [if_neg c9] at H
        exact nn_ H
      ·rw [if_neg c7] at H
       exact nn_ H
     ·rw [if_neg c6] at H
      have mY := decide_eq_false c6; clear c6; obtain rfl := Option.some.inj H
      go_wp2
      go_ret
      (exact ⟨_, rr_, by (with_reducible repeat (first | apply Kd.aBf | apply Kd.aBg | apply Kd.aBi)); exact dS.out, by repeat (first | (with_reducible first | exact HB.out | apply aAi | apply aAo | apply aAm) | exact HB.out)⟩)
  ·rw [if_neg c3] at H
   exact nn_ H
 ·rw [if_neg c2] at H
  exact nn_ H

def dF.f (a0 a1 a2 : Int) : Option Bool := if a1 ≤ a0 then (some (decide (a0 ≤ a2))) else (some false)
theorem dF.calls (a0 a1 a2 : Int) (r : Bool) (w : World) (h : dF.f a0 a1 a2 = some r) :
  Calls Tryz.prog 77 #[.int .i64 a0, .int .i64 a1, .int .i64 a2] w fun e w' => e = .returned (.bool r) ∧ aAu w w' := by
 have H : (if a1 ≤ a0 then (some (decide (a0 ≤ a2))) else (some false)) = some r := h
 clear h
 by_cases c4 : a1 ≤ a0
 ·rw [if_pos c4] at H
  have iB := decide_eq_true c4; clear c4; obtain rfl := Option.some.inj H
  go_enter Tryz.func77, Tryz.ntmps77
  go_wp2
  go_ret
  (exact ⟨by first | rfl | (simp; done) | (simp [*]; done), by repeat (first | exact aAu.refl _ | apply aAu.step)⟩)
 ·rw [if_neg c4] at H
  have iB := decide_eq_false c4; clear c4; obtain rfl := Option.some.inj H
  go_enter Tryz.func77, Tryz.ntmps77
  go_wp2
  go_ret
  (exact ⟨by first | rfl | (simp; done) | (simp [*]; done), by repeat (first | exact aAu.refl _ | apply aAu.step)⟩)

def jQ.f (a0 : Int) : Option Bool := if a0 ≥ 97 then (some (decide (a0 ≤ 122))) else (some false)
theorem jQ.calls (a0 : Int) (r : Bool) (w : World) (h : jQ.f a0 = some r) :
  Calls Tryz.prog 86 #[.int .u8 a0] w fun e w' => e = .returned (.bool r) ∧ aAu w w' := by
 have H : (if a0 ≥ 97 then (some (decide (a0 ≤ 122))) else (some false)) = some r := h
 clear h
 by_cases c2 : a0 ≥ 97
 ·rw [if_pos c2] at H
  have qD := decide_eq_true c2; clear c2; obtain rfl := Option.some.inj H
  go_enter Tryz.func86, Tryz.ntmps86
  go_wp2
  go_ret
  (exact ⟨by first | rfl | (simp; done) | (simp [*]; done), by repeat (first | exact aAu.refl _ | apply aAu.step)⟩)
 ·rw [if_neg c2] at H
  have qD := decide_eq_false c2; clear c2; obtain rfl := Option.some.inj H
  go_enter Tryz.func86, Tryz.ntmps86
  go_wp2
  go_ret
  (exact ⟨by first | rfl | (simp; done) | (simp [*]; done), by repeat (first | exact aAu.refl _ | apply aAu.step)⟩)

theorem a9T.calls (f : Int → Option Bool) (g : Nat) (lb : Array Value) (eg : ∀ args w, (callFunc g args).run Tryz.prog w = .ok (.enter g args) w) (A : Option Addr) (c : Nat) (xs : List Int) (r : Int) (w : World) (hr : Kd.C (Kd.int .u8) w A xs.length xs) (hp : CB Tryz.prog (Kd.int .u8) (fun cs => cs.headD .nilIface) g lb f xs w) (h : aGj f xs 0 = some r) :
  Calls Tryz.prog 130 #[.slice A xs.length c, .func (.func g) #[] lb] w fun e w' => e = .returned (.int .i64 r) ∧ Below w.heap.size w w' := by
 have hbig : xs.length ≤ 9223372036854775807 := hr.2.1
 have HR := am_ hr
 have HP := am_ hp
 have HX := am_ h
 clear hr hp h
 go_enter Tryz.func130, Tryz.ntmps130
 go_wp2
 go_loopg [5, 8] xs.length (fun gg _ s8 wr => ∃ x : Int, s8 = .int .i64 x ∧ Aside0 (0 ≤ x ∧ x ≤ xs.length ∧ xs.length - x.toNat ≤ gg ∧ aGj f (xs.drop x.toNat) x = some r ∧ Below w.heap.size w wr))
 case atStart => exact ⟨0, rfl, ⟨by omega, by omega, by simp, by simpa using HX.out, Below.refl _ _⟩⟩
 case round =>
  obtain ⟨x, rfl, HI⟩ := hrel; obtain ⟨x0, x1, hg, hi, BW⟩ := HI.out
  by_cases hlt : x < (xs.length : Int)
  ·have c4 : decide (x < (xs.length : Int)) = true := decide_eq_true hlt
   have c5 : decide (0 ≤ x) = true := decide_eq_true x0; obtain ⟨ad, cs, rfl, hl, hK, hcell⟩ := Kd.aEj (Kd.aAp HR.out BW) (0 : Int) x x0 hlt; obtain ⟨b, hb, hm, ht, hf⟩ := aEq (0 : Int) x0 hlt hi; have hl1 : cs.length = 1 := hl
   obtain ⟨v0, rfl⟩ : ∃ v0, cs = [v0] := by
    match cs, hl1 with
    | [v0], _ => exact ⟨v0, rfl⟩
   (have hc0 : wr.cell? (ad.add x.toNat) = some v0 := by have h_ := hcell 0 v0 rfl; rwa [show ((Kd.int .u8)).sz = 1 from rfl, Nat.mul_one, Nat.add_zero] at h_); have hcall : Calls Tryz.prog g (#[v0] ++ lb) wr (fun e w' => e = .returned (.bool b) ∧ Below wr.heap.size wr w') := HP.out wr _ [v0] b BW hm hK hb
   cases b with
   | true =>
    have HJ := am_ (And.intro (ht rfl) BW); clear hcell hK hb hm ht hf hi BW HI hg hl hl1
    go_wp2_with (go_at_fn g; refine hcall.mono ?_; rintro e w' ⟨rfl, hb'⟩)
    go_ret
    exact ⟨aDo HJ.out.1.symm, HJ.out.2.trans (hb'.mono HJ.out.2.size)⟩
   | false =>
    have HJ := am_ (And.intro hg (And.intro (hf rfl) BW)); clear hcell hK hb hm ht hf hi BW HI hg hl hl1
    go_wp2_with (go_at_fn g; refine hcall.mono ?_; rintro e w' ⟨rfl, hb'⟩)
    go_roundg (xs.length - (x.toNat + 1))
    case measure => have := HJ.out.1; omega
    case rel => exact ⟨x + 1, by go_num, ⟨by omega, by omega, by omega, HJ.out.2.1, HJ.out.2.2.trans (hb'.mono HJ.out.2.2.size)⟩⟩
  ·have c4 : decide (x < (xs.length : Int)) = false := decide_eq_false hlt
   have hr : r = -1 := aFl hlt hi; clear hi HI; subst hr
   go_wp2
   go_ret
   exact ⟨rfl, BW⟩

theorem UH.calls (f : Int → Option Bool) (g : Nat) (lb : Array Value) (eg : ∀ args w, (callFunc g args).run Tryz.prog w = .ok (.enter g args) w) (A : Option Addr) (c : Nat) (xs : List Int) (r : Int) (w : World) (hr : Kd.C (Kd.int .u8) w A xs.length xs) (hp : CB Tryz.prog (Kd.int .u8) (fun cs => cs.headD .nilIface) g lb f xs w) (h : aGj f xs 0 = some r) :
  Calls Tryz.prog 109 #[.slice A xs.length c, .func (.func g) #[] lb] w fun e w' => e = .returned (.bool (decide (r ≥ 0))) ∧ Below w.heap.size w w' := by
 have hcall := a9T.calls f g lb eg A c xs r w hr hp h
 clear hr hp h
 go_enter Tryz.func109, Tryz.ntmps109
 go_wp2_with (go_at_call 130; refine hcall.mono ?_; rintro e w' ⟨rfl, hb'⟩)
 go_ret
 exact ⟨rfl, hb'⟩

theorem TT.not (f : Int → Option Bool) (g : Nat) (lb : Array Value) (eg : ∀ args w, (callFunc g args).run Tryz.prog w = .ok (.enter g args) w) (B : Nat) (xs : List Int) (w : World) (hB : B < w.heap.size) (hp : CB Tryz.prog (Kd.int .u8) (fun cs => cs.headD .nilIface) g lb f xs w) (hc : w.cell? ⟨B, 0, none⟩ = some (.func (.func g) #[] lb)) :
  CB Tryz.prog (Kd.int .u8) (fun cs => cs.headD .nilIface) 110 #[.pointer (some ⟨B, 0, none⟩)] (fun x => (f x).map not) xs w := by
   intro W x cs b hb hm hK hf; obtain ⟨t, ht, rfl⟩ := Option.map_eq_some_iff.1 hf; have F3 := hK; have hc' : W.cell? ⟨B, 0, none⟩ = some (.func (.func g) #[] lb) := (hb.cell (p := ⟨B, 0, none⟩) hB).trans hc; have hl1 : cs.length = 1 := ((Kd.int .u8)).K_len hK
   obtain ⟨v0, rfl⟩ : ∃ v0, cs = [v0] := by
    match cs, hl1 with
    | [v0], _ => exact ⟨v0, rfl⟩
   (have hcall : ∀ W1, Below W.heap.size W W1 → Calls Tryz.prog g (#[v0] ++ lb) W1 (fun e w' => e = .returned (.bool t) ∧ Below W1.heap.size W1 w') := fun W1 h1 => hp W1 x [v0] t (hb.trans (h1.mono hb.size)) hm (Kd.K_below _ h1 F3) ht); (have hcd := fun o : Obj => aBn o hc'); (have HN := am_ (show B ≠ W.heap.size from fun e => by have := hb.size; omega)); clear hp hf hK F3 hm hb hc ht hl1; have hBW := HN.out; have hBW' := Ne.symm hBW
   show Calls Tryz.prog 110 #[v0, .pointer (some ⟨B, 0, none⟩)] W _
   go_enter Tryz.func110, Tryz.ntmps110
   go_wp2_with (go_at_fn g; refine (hcall _ (by first | exact Below.refl _ _ | exact aAi (Below.refl _ _) _)).mono ?_; rintro e w' ⟨rfl, hb'⟩)
   go_ret
   (exact ⟨rfl, by first | exact hb' | exact (aAi (Below.refl _ _) _ : Below W.heap.size W _).trans (hb'.mono (by simp))⟩)
theorem TT.calls (f : Int → Option Bool) (g : Nat) (lb : Array Value) (eg : ∀ args w, (callFunc g args).run Tryz.prog w = .ok (.enter g args) w) (A : Option Addr) (c : Nat) (xs : List Int) (r : Bool) (w : World) (hr : Kd.C (Kd.int .u8) w A xs.length xs) (hp : CB Tryz.prog (Kd.int .u8) (fun cs => cs.headD .nilIface) g lb f xs w) (h : aHn f xs = some r) :
  Calls Tryz.prog 87 #[.slice A xs.length c, .func (.func g) #[] lb] w fun e w' => e = .returned (.bool r) ∧ Below w.heap.size w w' := by
 obtain ⟨j, hj, hjr⟩ := aEw h 0 (Int.le_refl _)
 have e_l : ∀ args w, (callFunc 110 args).run Tryz.prog w = .ok (.enter 110 args) w := enters_of Tryz.func110 (by kernel_rfl) rfl
 have hB0 : Below w.heap.size w (w.alloc (.cells #[.func (.func g) #[] lb] 129)) := aAi (Below.refl _ _) _
 have hp1 := CB.later hB0 hp
 have hnot := TT.not f g lb eg w.heap.size xs _ (by simp) hp1 (by simp)
 have hcall := UH.calls _ 110 _ e_l A c xs j _ (Kd.aAp hr hB0) hnot hj
 have HJ := am_ hjr
 clear hr hp h hjr hj hp1 hnot hB0
 go_enter Tryz.func87, Tryz.ntmps87
 go_wp2_with (go_at_call 109; refine hcall.mono ?_; rintro e w' ⟨rfl, hb'⟩)
 go_ret
 exact ⟨aDj (by rw [HJ.out]; cases r <;> rfl), (aAi (Below.refl _ _) _ : Below w.heap.size w _).trans (hb'.mono (by simp))⟩

def mZ.f (a0 : Int) : Option Bool := if a0 ≥ 48 then (some (decide (a0 ≤ 57))) else (some false)
theorem mZ.calls (a0 : Int) (r : Bool) (w : World) (h : mZ.f a0 = some r) :
  Calls Tryz.prog 89 #[.int .u8 a0] w fun e w' => e = .returned (.bool r) ∧ aAu w w' := by
 have H : (if a0 ≥ 48 then (some (decide (a0 ≤ 57))) else (some false)) = some r := h
 clear h
 by_cases c2 : a0 ≥ 48
 ·rw [if_pos c2] at H
  have qD := decide_eq_true c2; clear c2; obtain rfl := Option.some.inj H
  go_enter Tryz.func89, Tryz.ntmps89
  go_wp2
  go_ret
  (exact ⟨by first | rfl | (simp; done) | (simp [*]; done), by repeat (first | exact aAu.refl _ | apply aAu.step)⟩)
 ·rw [if_neg c2] at H
  have qD := decide_eq_false c2; clear c2; obtain rfl := Option.some.inj H
  go_enter Tryz.func89, Tryz.ntmps89
  go_wp2
  go_ret
  (exact ⟨by first | rfl | (simp; done) | (simp [*]; done), by repeat (first | exact aAu.refl _ | apply aAu.step)⟩)

def kL.f (a0 : Int) : Option Bool := (jQ.f a0).bind fun b0T => (if b0T = true then (some true) else ((mZ.f a0).bind fun bEF => (some bEF)))
theorem kL.calls (a0 : Int) (r : Bool) (w : World) (h : kL.f a0 = some r) :
  Calls Tryz.prog 88 #[.int .u8 a0] w fun e w' => e = .returned (.bool r) ∧ aAu w w' := by
 have H : ((jQ.f a0).bind fun b0T => (if b0T = true then (some true) else ((mZ.f a0).bind fun bEF => (some bEF)))) = some r := h
 clear h
 replace H := aBp H
 obtain ⟨b0T, BB, H⟩ := H
 try dsimp only at H
 have A2 := am_ BB
 clear BB
 by_cases c3 : b0T = true
 ·subst c3
  rw [if_pos rfl] at H; obtain rfl := Option.some.inj H
  go_enter Tryz.func88, Tryz.ntmps88
  go_wp2_with (first | ((with_reducible refine aAa (f := 86) rfl ?_); refine aBh (some 4) Tryz.func86 #[.int .u8 a0] ?_; (with_reducible refine (jQ.calls _ _ _ A2.out).mono ?_); rintro e w' ⟨rfl, ⟨nd, rfl⟩⟩; refine ⟨_, rfl, ?_⟩))
  go_ret
  (exact ⟨by first | rfl | (simp; done) | (simp [*]; done), by repeat (first | exact aAu.refl _ | apply aAu.step)⟩)
 ·replace c3 := Bool.eq_false_iff.mpr c3
  subst c3; replace H := aZf H; replace H := aBp H; obtain ⟨bEF, N9, H⟩ := H
  try dsimp only at H
  have A4 := am_ N9; clear N9; obtain rfl := Option.some.inj H
  go_enter Tryz.func88, Tryz.ntmps88
  go_wp2_with (first | ((with_reducible refine aAa (f := 86) rfl ?_); refine aBh (some 4) Tryz.func86 #[.int .u8 a0] ?_; (with_reducible refine (jQ.calls _ _ _ A2.out).mono ?_); rintro e w' ⟨rfl, ⟨nd, rfl⟩⟩; refine ⟨_, rfl, ?_⟩) | (go_at_call 89; (with_reducible refine (mZ.calls _ _ _ A4.out).mono ?_); rintro e w' ⟨rfl, ⟨nd, rfl⟩⟩))
  go_ret
  (exact ⟨by first | rfl | (simp; done) | (simp [*]; done), by repeat (first | exact aAu.refl _ | apply aAu.step)⟩)

def aEc (s : ByteArray) : List Int := s.data.toList.map fun b => (b.toNat : Int)
theorem aTi (w : World) (e : TypeId) (s : ByteArray) (h : s.size ≤ 1000) : Kd.C (Kd.int .u8) (Go.Lib.bytesWorld w e s) (some ⟨w.heap.size, 0, none⟩) (aEc s).length (aEc s) := by
  refine ⟨rfl, by simp [aEc] at h ⊢; omega, fun _ => ⟨_, rfl, fun j p hj => ⟨[.int .u8 p], rfl, rfl, fun i u hu => ?_⟩⟩⟩
  have hl : j < s.size := by have := (List.getElem?_eq_some_iff.1 hj).1; simpa [aEc] using this
  cases i with
  | succ i => simp at hu
  | zero =>
    obtain rfl : Value.int .u8 p = u := by simpa using hu
    have h0 := Go.Lib.bytesWorld_cell w e s j hl
    have h1 : ((s.data.toList.getD j 0).toNat : Int) = p := by
      simp only [aEc, List.getElem?_map] at hj
      obtain ⟨b, hb, rfl⟩ := Option.map_eq_some_iff.1 hj
      simp [List.getD, hb]
    rw [show (Addr.add ⟨w.heap.size, 0, none⟩ (j * (Kd.int .u8).sz + 0)) = ⟨w.heap.size, j, none⟩ by rw [show (Kd.int .u8).sz = 1 from rfl]; simp [Addr.add]; intro h; exact h.symm]
    rw [h0, h1]
def kN.f (a0 : ByteArray) : Option Bool :=
  (dF.f (a0.size : Int) 1 10).bind fun t => if t = true then (if 0 < (a0.size : Int) then ((jQ.f (bt a0 0)).bind fun s => if s = true then (if (a0.size : Int) ≤ 1000 then aHn kL.f (aEc a0) else none) else some false) else none) else some false
theorem aQl (xs : List Int) (w : World) : CB Tryz.prog (Kd.int .u8) (fun cs => cs.headD .nilIface) 88 #[] kL.f xs w := by
  intro W x cs b _ _ hK hf
  obtain rfl : cs = [.int .u8 x] := hK
  refine Calls.mono (show Calls Tryz.prog 88 #[.int .u8 x] W _ from kL.calls x b W hf) ?_
  rintro e w' ⟨rfl, nd, rfl⟩
  exact ⟨rfl, aAo (Below.refl _ _) _⟩
theorem kN.calls (a0 : ByteArray) (r : Bool) (w : World) (h : kN.f a0 = some r) :
    Calls Tryz.prog 61 #[.string a0] w fun e w' => e = .returned (.bool r) ∧ Below w.heap.size w w' := by
  unfold kN.f at h
  obtain ⟨t, ht, h⟩ := Option.bind_eq_some_iff.1 h
  have HT := am_ ht
  clear ht
  cases t with
  | false =>
    obtain rfl : false = r := by simpa using h
    clear h
    go_enter Tryz.func61, Tryz.ntmps61
    go_wp2_with (go_at_call 77; (with_reducible refine (dF.calls _ _ _ _ _ HT.out).mono ?_); rintro e w' ⟨rfl, ⟨nd, rfl⟩⟩)
    go_ret
    exact ⟨rfl, aAo (Below.refl _ _) _⟩
  | true =>
    rw [if_pos rfl] at h
    by_cases hz : 0 < (a0.size : Int)
    case neg => rw [if_neg hz] at h; cases h
    rw [if_pos hz] at h
    have hz1 : decide ((0 : Int) < (a0.size : Int)) = true := decide_eq_true hz
    have hz2 : 0 < a0.size := by omega
    have hx5 : ∀ h : 0 < a0.size, ((a0[0]'h).toNat : Int) = bt a0 0 := aPm a0 0
    have hz3 := eq_true hz2
    obtain ⟨s, hs, h⟩ := Option.bind_eq_some_iff.1 h
    have HS := am_ hs
    clear hs
    cases s with
    | false =>
      obtain rfl : false = r := by simpa using h
      clear h
      go_enter Tryz.func61, Tryz.ntmps61
      go_wp2_with (first | (go_at_call 77; (with_reducible refine (dF.calls _ _ _ _ _ HT.out).mono ?_); rintro e w' ⟨rfl, ⟨nd, rfl⟩⟩) | (go_at_call 86; (with_reducible refine (jQ.calls _ _ _ HS.out).mono ?_); rintro e w' ⟨rfl, ⟨nd1, rfl⟩⟩))
      go_ret
      exact ⟨rfl, aAo (Below.refl _ _) _⟩
    | true =>
      rw [if_pos rfl] at h
      by_cases hk : (a0.size : Int) ≤ 1000
      case neg => rw [if_neg hk] at h; cases h
      rw [if_pos hk] at h
      have hk1 : a0.size ≤ 1000 := by omega
      have eg : ∀ args w, (callFunc 88 args).run Tryz.prog w = .ok (.enter 88 args) w := enters_of Tryz.func88 (by kernel_rfl) rfl
      have hconv := fun W : World => Go.Lib.run_convert_string_bytes (P := Tryz.prog) W 9 131 5 a0 Tryz.underlying9 Tryz.underlying131 Tryz.underlying5
      have hcall : ∀ W : World, ∀ c, Calls Tryz.prog 87 #[.slice (some ⟨W.heap.size, 0, none⟩) a0.size c, .func (.func 88) #[] #[]] (Go.Lib.bytesWorld W 5 a0) fun e w' => e = .returned (.bool r) ∧ Below (W.heap.size + 1) (Go.Lib.bytesWorld W 5 a0) w' := fun W c => by
        have h1 := TT.calls kL.f 88 #[] eg (some ⟨W.heap.size, 0, none⟩) c (aEc a0) r _ (aTi W 5 a0 hk1) (aQl _ _) h
        have e1 : (aEc a0).length = a0.size := by simp [aEc]
        rw [e1, Go.Lib.bytesWorld_size] at h1
        exact h1
      clear h eg hz hk
      go_enter Tryz.func61, Tryz.ntmps61
      go_wp2_with (first | (go_at_call 77; (with_reducible refine (dF.calls _ _ _ _ _ HT.out).mono ?_); rintro e w' ⟨rfl, ⟨nd, rfl⟩⟩) | (go_at_call 86; (with_reducible refine (jQ.calls _ _ _ HS.out).mono ?_); rintro e w' ⟨rfl, ⟨nd1, rfl⟩⟩) | (go_at_call 87; (refine (hcall _ _).mono ?_); rintro e w' ⟨rfl, hb'⟩))
      go_ret
      exact ⟨rfl, (aNv (aAo (Below.refl _ _) _) (by simp) _ _).trans (hb'.mono (by simp))⟩
def fB.l0 : Nat → List ByteArray → List ByteArray → Int → Int → Option Bool
 | 0, _, _, _, _ => none
 | k + 1, x0, x5, x6, x7 => if x7 < x6 then (if 0 ≤ x7 then (if x7 < (x5.length : Int) then ((kN.f (aGm ByteArray.empty x5 x7)).bind fun c1E => (if c1E = true then (if x7 > 0 then (if 0 ≤ (wrap64 (x7 - 1)) then (if (wrap64 (x7 - 1)) < (x0.length : Int) then (if ((Op.bytesLess ((aGm ByteArray.empty x0 (wrap64 (x7 - 1))).toList) ((aGm ByteArray.empty x5 x7).toList)) = true) then (fB.l0 k x0 x5 x6 (wrap64 (x7 + 1))) else (some false)) else (none)) else (none)) else (fB.l0 k x0 x5 x6 (wrap64 (x7 + 1)))) else (some false))) else (none)) else (none)) else (some true)
def fB.f (k : Nat) (l0 : List ByteArray) : Option Bool := fB.l0 k l0 l0 (l0.length : Int) 0
theorem fB.calls (k : Nat) (A0 : Option Addr) (c0 : Nat) (l0 : List ByteArray) (r : Bool) (w : World) (hr0 : Kd.C Kd.string w A0 l0.length l0) (hc0 : l0.length ≤ c0) (h : fB.f k l0 = some r) :
  Calls Tryz.prog 38 #[.slice A0 l0.length c0] w fun e w' => e = .returned (.bool r) ∧ Below w.heap.size w w' := by
 have jY := am_ hr0
 have oQ := am_ hc0
 clear hr0 hc0
 have HB := am_ (Below.refl w.heap.size w)
 have H : (fB.l0 k l0 l0 (l0.length : Int) 0) = some r := h
 clear h
 have H' := am_ H
 clear H
 go_enter Tryz.func38, Tryz.ntmps38
 go_wp2
 go_loopg [7] k (fun kq v7 w' => ∃ (zS : Int), v7 = .int .i64 zS ∧ Aside0 (fB.l0 kq l0 l0 (l0.length : Int) zS = some r) ∧ Aside0 (kq ≤ k) ∧ Aside0 (Below w.heap.size w w'))
 case atStart => exact ⟨(0), rs_, H', ⟨Nat.le_refl _⟩, ⟨bb_⟩⟩
 case round =>
  clear H'; obtain ⟨zS, rfl, HA, jK, HB⟩ := hrel
  cases gk with
  | zero => exact absurd HA.out (by simp [fB.l0])
  | succ k1 =>
   have H := HA.out; clear HA; simp only [fB.l0] at H
   by_cases c2 : zS < (l0.length : Int)
   ·rw [if_pos c2] at H
    have qD := decide_eq_true c2; clear c2
    by_cases c3 : 0 ≤ zS
    ·rw [if_pos c3] at H
     have fC := decide_eq_true c3; clear c3
     by_cases c4 : zS < (l0.length : Int)
     ·rw [if_pos c4] at H
      have iB := decide_eq_true c4; clear c4; replace H := aBp H; obtain ⟨c1E, U9, H⟩ := H
      try dsimp only at H
      have A5 := am_ U9; clear U9; have gY := am_ H; clear H; (have bRD : 0 ≤ (zS : Int) := oa_); (have bX8 : zS < (l0.length : Int) := oa_); obtain ⟨bOL, d4H, aQQ⟩ := Kd.aGd jY.out zS bRD bX8; cases d4H; replace aQQ := hb_ HB aQQ; replace bRD := eq_true bRD; replace bX8 := eq_true bX8; have H := gY.out; clear gY
      by_cases c6 : c1E = true
      ·subst c6
       rw [if_pos rfl] at H
       by_cases c7 : zS > 0
       ·rw [if_pos c7] at H
        have iV := decide_eq_true c7; clear c7; obtain ⟨ji8, b1U⟩ : ∃ j_ : Int, (wrap64 (zS - 1)) = j_ := ⟨_, rfl⟩; (replace H : (if 0 ≤ (ji8) then (if (ji8) < (l0.length : Int) then (if ((Op.bytesLess ((aGm ByteArray.empty l0 (ji8)).toList) ((aGm ByteArray.empty l0 zS).toList)) = true) then (fB.l0 k1 l0 l0 (l0.length : Int) (wrap64 (zS + 1))) else (some false)) else (none)) else (none)) = some r := by first | (rw [b1U] at H; exact H) | (simp only [b1U] at H ⊢; exact H)); (try rw [b1U] at A5); have d7Z : (IntKind.i64.wrap (zS - 1)) = ji8 := (aCj _).trans b1U
        by_cases c9 : 0 ≤ (ji8)
        ·rw [if_pos c9] at H
         have xC := decide_eq_true c9; clear c9
         by_cases c10 : (ji8) < (l0.length : Int)
         ·rw [if_pos c10] at H
          have UA := decide_eq_true c10; clear c10
          by_cases c11 : ((Op.bytesLess ((aGm ByteArray.empty l0 (ji8)).toList) ((aGm ByteArray.empty l0 zS).toList)) = true)
          ·rw [if_pos c11] at H
           have ND : (Op.bytesLess ((aGm ByteArray.empty l0 (ji8)).toList) ((aGm ByteArray.empty l0 zS).toList)) = true := c11; clear c11; have H' := am_ H; clear H
           go_wp2_with (first | ((with_reducible refine aAa (f := 61) rfl ?_); refine aBh (some 13) Tryz.func61 #[.string (aGm ByteArray.empty l0 zS)] ?_; (with_reducible refine (kN.calls _ _ _ A5.out).mono ?_); rintro e w12 ⟨rfl, hb⟩; refine ⟨_, rfl, ?_⟩; replace HB := bs_ hb; (try clear hb); have aJA : 0 ≤ ((ji8) : Int) := oa_; have aIY : (ji8) < (l0.length : Int) := oa_; obtain ⟨b37, bXW, QL⟩ := Kd.aGd jY.out (ji8) aJA aIY; obtain rfl : bOL = b37 := (by injection bXW); replace QL := hb_ HB QL; replace aJA := eq_true aJA; replace aIY := eq_true aIY))
           go_roundg k1
           case measure => have := jK.out; omega
           case rel => exact ⟨(wrap64 (zS + 1)), rs_, H', ⟨by have := jK.out; omega⟩, ⟨bb_⟩⟩
          ·rw [if_neg c11] at H
           (have ND : (Op.bytesLess ((aGm ByteArray.empty l0 (ji8)).toList) ((aGm ByteArray.empty l0 zS).toList)) = false := by simpa using c11); clear c11; obtain rfl := Option.some.inj H
           go_wp2_with (first | ((with_reducible refine aAa (f := 61) rfl ?_); refine aBh (some 13) Tryz.func61 #[.string (aGm ByteArray.empty l0 zS)] ?_; (with_reducible refine (kN.calls _ _ _ A5.out).mono ?_); rintro e w12 ⟨rfl, hb⟩; refine ⟨_, rfl, ?_⟩; replace HB := bs_ hb; (try clear hb); have aJA : 0 ≤ ((ji8) : Int) := oa_; have aIY : (ji8) < (l0.length : Int) := oa_; obtain ⟨b37, bXW, QL⟩ := Kd.aGd jY.out (ji8) aJA aIY; obtain rfl : bOL = b37 := (by injection bXW); replace QL := hb_ HB QL; replace aJA := eq_true aJA; replace aIY := eq_true aIY))
           go_ret
           (exact ⟨by first | rfl | (simp [aBo, aBq] <;> rfl) | (simp only [← b1U]; first | rfl | (simp [aBo, aBq] <;> rfl)) | (simp [*, aBo, aBq] <;> rfl), by repeat (first | (with_reducible first | exact HB.out | apply aAi | apply aAo | apply aAm) | exact HB.out)⟩)
         ·rw [if_neg c10] at H
          exact nn_ H
        ·rw [if_neg c9] at H
         exact nn_ H
       ·rw [if_neg c7] at H
        have iV := decide_eq_false c7; clear c7; have H' := am_ H; clear H
        go_wp2_with (first | ((with_reducible refine aAa (f := 61) rfl ?_); refine aBh (some 13) Tryz.func61 #[.string (aGm ByteArray.empty l0 zS)] ?_; (with_reducible refine (kN.calls _ _ _ A5.out).mono ?_); rintro e w14 ⟨rfl, hb⟩; refine ⟨_, rfl, ?_⟩; replace HB := bs_ hb; (try clear hb)))
        go_roundg k1
        case measure => have := jK.out; omega
        case rel => exact ⟨(wrap64 (zS + 1)), rs_, H', ⟨by have := jK.out; omega⟩, ⟨bb_⟩⟩
      ·replace c6 := Bool.eq_false_iff.mpr c6
       subst c6; replace H := aZf H; obtain rfl := Option.some.inj H
       go_wp2_with (first | ((with_reducible refine aAa (f := 61) rfl ?_); refine aBh (some 13) Tryz.func61 #[.string (aGm ByteArray.empty l0 zS)] ?_; (with_reducible refine (kN.calls _ _ _ A5.out).mono ?_); rintro e w15 ⟨rfl, hb⟩; refine ⟨_, rfl, ?_⟩; replace HB := bs_ hb; (try clear hb)))
       go_ret
       exact ⟨er_, bb_⟩
     ·rw [if_neg c4] at H
      exact nn_ H
    ·rw [if_neg c3] at H
     exact nn_ H
   ·rw [if_neg c2] at H
    have qD := decide_eq_false c2; clear c2; obtain rfl := Option.some.inj H
    go_wp2
    go_ret
    exact ⟨er_, bb_⟩

def gJ.l0 : Nat → List ByteArray → List S68 → Int → Int → Option (List ByteArray)
 | 0, _, _, _, _ => none
 | k + 1, x3, x6, x7, x8 => if x8 < x7 then (if 0 ≤ x8 then (if x8 < (x6.length : Int) then (if x3.length < 8796093022208 then (gJ.l0 k (x3 ++ [(dE x6 x8).f0]) x6 x7 (wrap64 (x8 + 1))) else (none)) else (none)) else (none)) else (some x3)
def gJ.f (k : Nat) (l0 : List S68) : Option (List ByteArray) := gJ.l0 k ([] : List ByteArray) l0 (l0.length : Int) 0
theorem gJ.calls (k : Nat) (A0 : Option Addr) (c0 : Nat) (l0 : List S68) (r : List ByteArray) (w : World) (hr0 : Kd.C BC w A0 l0.length l0) (hc0 : l0.length ≤ c0) (h : gJ.f k l0 = some r) :
  Calls Tryz.prog 57 #[.slice A0 l0.length c0] w fun e w' => ∃ I7 : Value, e = .returned (I7) ∧ Kd.R Kd.string 9 w' w.heap.size (fun _ => True) I7 r ∧ Below w.heap.size w w' := by
 have aJ8 := Tryz.underlying68
 have jY := am_ hr0
 have oQ := am_ hc0
 clear hr0 hc0
 have HB := am_ (Below.refl w.heap.size w)
 have H : (gJ.l0 k ([] : List ByteArray) l0 (l0.length : Int) 0) = some r := h
 clear h
 have H' := am_ H
 clear H
 go_enter Tryz.func57, Tryz.ntmps57
 go_wp2
 go_loopg [3, 8] k (fun kq v3 v8 w' => ∃ (bA : List ByteArray) (gU : Int), v8 = .int .i64 gU ∧ Aside0 (gJ.l0 kq bA l0 (l0.length : Int) gU = some r) ∧ Aside0 (kq ≤ k) ∧ Aside0 (Kd.R Kd.string 9 w' w.heap.size (fun _ => True) v3 bA) ∧ Aside0 (Below w.heap.size w w'))
 case atStart => exact ⟨(([] : List ByteArray)), (0), rs_, H', ⟨Nat.le_refl _⟩, ⟨by first | exact Kd.aFr _ _ _ _ _ | exact Kd.aRo _ _ _ _ _ | exact Kd.aOg _ _ _ _ _ | exact Kd.aRw _ _ _ _ _ | exact Kd.aRy _ _ _ _ _⟩, ⟨bb_⟩⟩
 case round =>
  clear H'; obtain ⟨bA, gU, rfl, HA, jK, dS, HB⟩ := hrel
  cases gk with
  | zero => exact absurd HA.out (by simp [gJ.l0])
  | succ k1 =>
   have H := HA.out; clear HA; simp only [gJ.l0] at H
   by_cases c2 : gU < (l0.length : Int)
   ·rw [if_pos c2] at H
    have qD := decide_eq_true c2; clear c2
    by_cases c3 : 0 ≤ gU
    ·rw [if_pos c3] at H
     have fC := decide_eq_true c3; clear c3
     by_cases c4 : gU < (l0.length : Int)
     ·rw [if_pos c4] at H
      have iB := decide_eq_true c4; clear c4
      by_cases c5 : bA.length < 8796093022208
      ·rw [if_pos c5] at H
       have bUZ := am_ c5; clear c5; obtain ⟨c7G, aH7⟩ : ∃ y_ : List ByteArray, y_ = (bA ++ [(dE l0 gU).f0]) := ⟨_, rfl⟩; (replace H : (gJ.l0 k1 c7G l0 (l0.length : Int) (wrap64 (gU + 1))) = some r := by first | (rw [aH7]; with_reducible exact H) | (have jC := (Option.bind_some _ _).symm.trans H; rw [aH7]; with_reducible exact jC) | (have jC := (Option.bind_some _ _).symm.trans H; with_reducible exact jC) | with_reducible exact H | (rw [aH7]; exact H) | exact H); have cM8 := am_ aH7; clear aH7; have H' := am_ H; clear H; (have bTH : 0 ≤ (gU : Int) := oa_); (have bWM : gU < (l0.length : Int) := oa_); obtain ⟨dBF, bVG, bUN, d3D, aQI, aXI, aRZ, aNE, aWL⟩ := DW jY.out gU bTH bWM; cases d3D; obtain ⟨aQI, aXI, aRZ⟩ := aNo HB aQI aXI aRZ; have cWK := am_ aWL; have cQ4 := am_ aNE; clear aWL aNE; replace bTH := eq_true bTH; replace bWM := eq_true bWM
       go_wp2_with (first | ((with_reducible refine aAc (N := 5) rfl ?_); refine bx_ 5 #[.string (⟨#[]⟩ : ByteArray), .int .i64 0, .slice none 0 0] 68 ?_; intro cIT hg w6 hbox hb; have aE7 := am_ (hbox); have d9W := gw_ hg; replace dS := am_ (Kd.aAs (rk_ dS.out) hb); replace HB := bs_ hb; clear hb hbox hg; obtain ⟨uN, uU, FR, uY, uP, FJ⟩ := b3_ aE7) | ((with_reducible refine aEx (b := .append) (xs := #[.tmp 12, .tmp 15]) rfl ?_); at_builtin; refine Kd.aLu Kd.string (w0 := w) w.heap.size rfl (.tmp 12) (.tmp 15) 88 9 (.string ⟨#[]⟩) 16 rfl Tryz.underlying88 bQQ rfl (by decide) (by omega) u3 bA ((dE l0 gU).f0) [.string ((dE l0 gU).f0)] (fun _ => True) (fun _ => False) rfl (by first | (go_simp; done) | (go_simp; rfl)) ?aP (fun _ hk => hk.elim) ?aF ?aO ?aB ?aS ?aL ?_; (case aP => exact rfl); (case aB => exact bb_); (case aF => exact (fun _ _ => trivial)); (case aO => exact (rk_ (Kd.aAw (aZe (Kd.aCa dS.out aE7.out (by decide)) (fun _ hk => hk.2)) (fun _ hk => trivial)))); (case aS => exact (aAj bb_)); (case aL => have := bUZ.out; omega); intro dD3 w8 ho hb hg hat; rw [← cM8.out] at ho; have c8J := am_ (ho); replace aE7 := am_ (aFd (g := cIT) (o := .cells #[.string ((dE l0 gU).f0), .int .i64 ((dE l0 gU).f1.f0), .slice bVG ((dE l0 gU).f1.f1).length bUN] 68 (0, 0)) (aWh (aBx aE7.out)) hg (Kd.aWf dS.out aE7.out (by decide))); replace HB := am_ (hb); clear dS; clear ho hb hg hat))
       go_roundg k1
       case measure => have := jK.out; omega
       case rel => exact ⟨(c7G), (wrap64 (gU + 1)), rs_, H', ⟨by have := jK.out; omega⟩, ⟨by (with_reducible repeat (first | apply Kd.aBf | apply Kd.aBg | apply Kd.aBi)); exact c8J.out⟩, ⟨bb_⟩⟩
      ·rw [if_neg c5] at H
       exact nn_ H
     ·rw [if_neg c4] at H
      exact nn_ H
    ·rw [if_neg c3] at H
     exact nn_ H
   ·rw [if_neg c2] at H
    have qD := decide_eq_false c2; clear c2; obtain rfl := Option.some.inj H
    go_wp2
    go_ret
    (exact ⟨_, rr_, by (with_reducible repeat (first | apply Kd.aBf | apply Kd.aBg | apply Kd.aBi)); exact dS.out, by repeat (first | (with_reducible first | exact HB.out | apply aAi | apply aAo | apply aAm) | exact HB.out)⟩)

theorem NC.calls (f : S68 → Option Bool) (g : Nat) (lb : Array Value) (eg : ∀ args w, (callFunc g args).run Tryz.prog w = .ok (.enter g args) w) (A : Option Addr) (c : Nat) (xs : List S68) (r : Int) (w : World) (hr : Kd.C BC w A xs.length xs) (hp : CB Tryz.prog BC (fun cs => Value.agg cs.toArray) g lb f xs w) (h : aGj f xs 0 = some r) :
  Calls Tryz.prog 64 #[.slice A xs.length c, .func (.func g) #[] lb] w fun e w' => e = .returned (.int .i64 r) ∧ Below w.heap.size w w' := by
 have hbig : xs.length ≤ 9223372036854775807 := hr.2.1
 have HR := am_ hr
 have HP := am_ hp
 have HX := am_ h
 clear hr hp h
 go_enter Tryz.func64, Tryz.ntmps64
 go_wp2
 go_loopg [5, 8] xs.length (fun gg _ s8 wr => ∃ x : Int, s8 = .int .i64 x ∧ Aside0 (0 ≤ x ∧ x ≤ xs.length ∧ xs.length - x.toNat ≤ gg ∧ aGj f (xs.drop x.toNat) x = some r ∧ Below w.heap.size w wr))
 case atStart => exact ⟨0, rfl, ⟨by omega, by omega, by simp, by simpa using HX.out, Below.refl _ _⟩⟩
 case round =>
  obtain ⟨x, rfl, HI⟩ := hrel; obtain ⟨x0, x1, hg, hi, BW⟩ := HI.out
  by_cases hlt : x < (xs.length : Int)
  ·have c4 : decide (x < (xs.length : Int)) = true := decide_eq_true hlt
   have c5 : decide (0 ≤ x) = true := decide_eq_true x0; obtain ⟨ad, cs, rfl, hl, hK, hcell⟩ := Kd.aEj (Kd.aAp HR.out BW) (z68 : S68) x x0 hlt; obtain ⟨b, hb, hm, ht, hf⟩ := aEq (z68 : S68) x0 hlt hi; generalize xs.getD x.toNat (z68 : S68) = p at hK hb hm; have F3 := hK; obtain ⟨aA2, aC2, rfl, _, _⟩ := AR hK; have hcell1 : ∀ j u, ([(.string p.f0), (.int .i64 p.f1.f0), (.slice aA2 p.f1.f1.length aC2)] : List Value)[j]? = some u → wr.cell? (ad.add (x.toNat * 3 + j)) = some u := hcell; have hc0 : wr.cell? (ad.add (x.toNat * 3)) = some (.string p.f0) := hcell1 0 _ rfl; (have hc1 : wr.cell? ⟨(ad.add (x.toNat * 3)).block, (ad.add (x.toNat * 3)).off + 1, none⟩ = some (.int .i64 p.f1.f0) := by rw [← aAg _ _ 1 (by omega)]; exact hcell1 1 _ rfl); (have hc2 : wr.cell? ⟨(ad.add (x.toNat * 3)).block, (ad.add (x.toNat * 3)).off + 2, none⟩ = some (.slice aA2 p.f1.f1.length aC2) := by rw [← aAg _ _ 2 (by omega)]; exact hcell1 2 _ rfl); have hcall : Calls Tryz.prog g (#[(.agg #[(.string p.f0), (.int .i64 p.f1.f0), (.slice aA2 p.f1.f1.length aC2)])] ++ lb) wr (fun e w' => e = .returned (.bool b) ∧ Below wr.heap.size wr w') := HP.out wr _ _ b BW hm F3 hb
   cases b with
   | true =>
    have HJ := am_ (And.intro (ht rfl) BW); clear hcell hcell1 hK hb hm ht hf hi BW HI hg hl F3
    go_wp2_with (go_at_fn g; refine hcall.mono ?_; rintro e w' ⟨rfl, hb'⟩)
    go_ret
    exact ⟨aDo HJ.out.1.symm, HJ.out.2.trans (hb'.mono HJ.out.2.size)⟩
   | false =>
    have HJ := am_ (And.intro hg (And.intro (hf rfl) BW)); clear hcell hcell1 hK hb hm ht hf hi BW HI hg hl F3
    go_wp2_with (go_at_fn g; refine hcall.mono ?_; rintro e w' ⟨rfl, hb'⟩)
    go_roundg (xs.length - (x.toNat + 1))
    case measure => have := HJ.out.1; omega
    case rel => exact ⟨x + 1, by go_num, ⟨by omega, by omega, by omega, HJ.out.2.1, HJ.out.2.2.trans (hb'.mono HJ.out.2.2.size)⟩⟩
  ·have c4 : decide (x < (xs.length : Int)) = false := decide_eq_false hlt
   have hr : r = -1 := aFl hlt hi; clear hi HI; subst hr
   go_wp2
   go_ret
   exact ⟨rfl, BW⟩

theorem U0.calls (f : S68 → Option Bool) (g : Nat) (lb : Array Value) (eg : ∀ args w, (callFunc g args).run Tryz.prog w = .ok (.enter g args) w) (A : Option Addr) (c : Nat) (xs : List S68) (r : Int) (w : World) (hr : Kd.C BC w A xs.length xs) (hp : CB Tryz.prog BC (fun cs => Value.agg cs.toArray) g lb f xs w) (h : aGj f xs 0 = some r) :
  Calls Tryz.prog 81 #[.slice A xs.length c, .func (.func g) #[] lb] w fun e w' => e = .returned (.bool (decide (r ≥ 0))) ∧ Below w.heap.size w w' := by
 have hcall := NC.calls f g lb eg A c xs r w hr hp h
 clear hr hp h
 go_enter Tryz.func81, Tryz.ntmps81
 go_wp2_with (go_at_call 64; refine hcall.mono ?_; rintro e w' ⟨rfl, hb'⟩)
 go_ret
 exact ⟨rfl, hb'⟩

theorem NL.not (f : S68 → Option Bool) (g : Nat) (lb : Array Value) (eg : ∀ args w, (callFunc g args).run Tryz.prog w = .ok (.enter g args) w) (B : Nat) (xs : List S68) (w : World) (hB : B < w.heap.size) (hp : CB Tryz.prog BC (fun cs => Value.agg cs.toArray) g lb f xs w) (hc : w.cell? ⟨B, 0, none⟩ = some (.func (.func g) #[] lb)) :
  CB Tryz.prog BC (fun cs => Value.agg cs.toArray) 82 #[.pointer (some ⟨B, 0, none⟩)] (fun x => (f x).map not) xs w := by
   intro W x cs b hb hm hK hf; obtain ⟨t, ht, rfl⟩ := Option.map_eq_some_iff.1 hf; have F3 := hK; have hc' : W.cell? ⟨B, 0, none⟩ = some (.func (.func g) #[] lb) := (hb.cell (p := ⟨B, 0, none⟩) hB).trans hc; obtain ⟨aA2, aC2, rfl, _, _⟩ := AR hK; (have hcall : ∀ W1, Below W.heap.size W W1 → Calls Tryz.prog g (#[(.agg #[(.string x.f0), (.int .i64 x.f1.f0), (.slice aA2 x.f1.f1.length aC2)])] ++ lb) W1 (fun e w' => e = .returned (.bool t) ∧ Below W1.heap.size W1 w') := fun W1 h1 => hp W1 x _ t (hb.trans (h1.mono hb.size)) hm (Kd.K_below _ h1 F3) ht); (have hcd := fun o : Obj => aBn o hc'); (have HN := am_ (show B ≠ W.heap.size from fun e => by have := hb.size; omega)); clear hp hf hK F3 hm hb hc ht; have hBW := HN.out; have hBW' := Ne.symm hBW
   show Calls Tryz.prog 82 #[(.agg #[(.string x.f0), (.int .i64 x.f1.f0), (.slice aA2 x.f1.f1.length aC2)]), .pointer (some ⟨B, 0, none⟩)] W _
   go_enter Tryz.func82, Tryz.ntmps82
   go_wp2_with (go_at_fn g; refine (hcall _ (by first | exact Below.refl _ _ | exact aAi (Below.refl _ _) _)).mono ?_; rintro e w' ⟨rfl, hb'⟩)
   go_ret
   (exact ⟨rfl, by first | exact hb' | exact (aAi (Below.refl _ _) _ : Below W.heap.size W _).trans (hb'.mono (by simp))⟩)
theorem NL.calls (f : S68 → Option Bool) (g : Nat) (lb : Array Value) (eg : ∀ args w, (callFunc g args).run Tryz.prog w = .ok (.enter g args) w) (A : Option Addr) (c : Nat) (xs : List S68) (r : Bool) (w : World) (hr : Kd.C BC w A xs.length xs) (hp : CB Tryz.prog BC (fun cs => Value.agg cs.toArray) g lb f xs w) (h : aHn f xs = some r) :
  Calls Tryz.prog 58 #[.slice A xs.length c, .func (.func g) #[] lb] w fun e w' => e = .returned (.bool r) ∧ Below w.heap.size w w' := by
 obtain ⟨j, hj, hjr⟩ := aEw h 0 (Int.le_refl _)
 have e_l : ∀ args w, (callFunc 82 args).run Tryz.prog w = .ok (.enter 82 args) w := enters_of Tryz.func82 (by kernel_rfl) rfl
 have hB0 : Below w.heap.size w (w.alloc (.cells #[.func (.func g) #[] lb] 112)) := aAi (Below.refl _ _) _
 have hp1 := CB.later hB0 hp
 have hnot := NL.not f g lb eg w.heap.size xs _ (by simp) hp1 (by simp)
 have hcall := U0.calls _ 82 _ e_l A c xs j _ (Kd.aAp hr hB0) hnot hj
 have HJ := am_ hjr
 clear hr hp h hjr hj hp1 hnot hB0
 go_enter Tryz.func58, Tryz.ntmps58
 go_wp2_with (go_at_call 81; refine hcall.mono ?_; rintro e w' ⟨rfl, hb'⟩)
 go_ret
 exact ⟨aDj (by rw [HJ.out]; cases r <;> rfl), (aAi (Below.refl _ _) _ : Below w.heap.size w _).trans (hb'.mono (by simp))⟩

theorem a0I.calls (f : S36 → Option Bool) (g : Nat) (lb : Array Value) (eg : ∀ args w, (callFunc g args).run Tryz.prog w = .ok (.enter g args) w) (A : Option Addr) (c : Nat) (xs : List S36) (r : Int) (w : World) (hr : Kd.C ER w A xs.length xs) (hp : CB Tryz.prog ER (fun cs => Value.agg cs.toArray) g lb f xs w) (h : aGj f xs 0 = some r) :
  Calls Tryz.prog 148 #[.slice A xs.length c, .func (.func g) #[] lb] w fun e w' => e = .returned (.int .i64 r) ∧ Below w.heap.size w w' := by
 have hbig : xs.length ≤ 9223372036854775807 := hr.2.1
 have HR := am_ hr
 have HP := am_ hp
 have HX := am_ h
 clear hr hp h
 go_enter Tryz.func148, Tryz.ntmps148
 go_wp2
 go_loopg [5, 8] xs.length (fun gg _ s8 wr => ∃ x : Int, s8 = .int .i64 x ∧ Aside0 (0 ≤ x ∧ x ≤ xs.length ∧ xs.length - x.toNat ≤ gg ∧ aGj f (xs.drop x.toNat) x = some r ∧ Below w.heap.size w wr))
 case atStart => exact ⟨0, rfl, ⟨by omega, by omega, by simp, by simpa using HX.out, Below.refl _ _⟩⟩
 case round =>
  obtain ⟨x, rfl, HI⟩ := hrel; obtain ⟨x0, x1, hg, hi, BW⟩ := HI.out
  by_cases hlt : x < (xs.length : Int)
  ·have c4 : decide (x < (xs.length : Int)) = true := decide_eq_true hlt
   have c5 : decide (0 ≤ x) = true := decide_eq_true x0; obtain ⟨ad, cs, rfl, hl, hK, hcell⟩ := Kd.aEj (Kd.aAp HR.out BW) (z36 : S36) x x0 hlt; obtain ⟨b, hb, hm, ht, hf⟩ := aEq (z36 : S36) x0 hlt hi; generalize xs.getD x.toNat (z36 : S36) = p at hK hb hm; have F3 := hK; obtain rfl := qP hK; have hcell1 : ∀ j u, ([(.int .i64 p.f0), (.int .i64 p.f1), (.string p.f2)] : List Value)[j]? = some u → wr.cell? (ad.add (x.toNat * 3 + j)) = some u := hcell; have hc0 : wr.cell? (ad.add (x.toNat * 3)) = some (.int .i64 p.f0) := hcell1 0 _ rfl; (have hc1 : wr.cell? ⟨(ad.add (x.toNat * 3)).block, (ad.add (x.toNat * 3)).off + 1, none⟩ = some (.int .i64 p.f1) := by rw [← aAg _ _ 1 (by omega)]; exact hcell1 1 _ rfl); (have hc2 : wr.cell? ⟨(ad.add (x.toNat * 3)).block, (ad.add (x.toNat * 3)).off + 2, none⟩ = some (.string p.f2) := by rw [← aAg _ _ 2 (by omega)]; exact hcell1 2 _ rfl); have hcall : Calls Tryz.prog g (#[(.agg #[(.int .i64 p.f0), (.int .i64 p.f1), (.string p.f2)])] ++ lb) wr (fun e w' => e = .returned (.bool b) ∧ Below wr.heap.size wr w') := HP.out wr _ _ b BW hm F3 hb
   cases b with
   | true =>
    have HJ := am_ (And.intro (ht rfl) BW); clear hcell hcell1 hK hb hm ht hf hi BW HI hg hl F3
    go_wp2_with (go_at_fn g; refine hcall.mono ?_; rintro e w' ⟨rfl, hb'⟩)
    go_ret
    exact ⟨aDo HJ.out.1.symm, HJ.out.2.trans (hb'.mono HJ.out.2.size)⟩
   | false =>
    have HJ := am_ (And.intro hg (And.intro (hf rfl) BW)); clear hcell hcell1 hK hb hm ht hf hi BW HI hg hl F3
    go_wp2_with (go_at_fn g; refine hcall.mono ?_; rintro e w' ⟨rfl, hb'⟩)
    go_roundg (xs.length - (x.toNat + 1))
    case measure => have := HJ.out.1; omega
    case rel => exact ⟨x + 1, by go_num, ⟨by omega, by omega, by omega, HJ.out.2.1, HJ.out.2.2.trans (hb'.mono HJ.out.2.2.size)⟩⟩
  ·have c4 : decide (x < (xs.length : Int)) = false := decide_eq_false hlt
   have hr : r = -1 := aFl hlt hi; clear hi HI; subst hr
   go_wp2
   go_ret
   exact ⟨rfl, BW⟩

theorem TA.calls (f : S36 → Option Bool) (g : Nat) (lb : Array Value) (eg : ∀ args w, (callFunc g args).run Tryz.prog w = .ok (.enter g args) w) (A : Option Addr) (c : Nat) (xs : List S36) (r : Int) (w : World) (hr : Kd.C ER w A xs.length xs) (hp : CB Tryz.prog ER (fun cs => Value.agg cs.toArray) g lb f xs w) (h : aGj f xs 0 = some r) :
  Calls Tryz.prog 139 #[.slice A xs.length c, .func (.func g) #[] lb] w fun e w' => e = .returned (.bool (decide (r ≥ 0))) ∧ Below w.heap.size w w' := by
 have hcall := a0I.calls f g lb eg A c xs r w hr hp h
 clear hr hp h
 go_enter Tryz.func139, Tryz.ntmps139
 go_wp2_with (go_at_call 148; refine hcall.mono ?_; rintro e w' ⟨rfl, hb'⟩)
 go_ret
 exact ⟨rfl, hb'⟩

theorem NM.not (f : S36 → Option Bool) (g : Nat) (lb : Array Value) (eg : ∀ args w, (callFunc g args).run Tryz.prog w = .ok (.enter g args) w) (B : Nat) (xs : List S36) (w : World) (hB : B < w.heap.size) (hp : CB Tryz.prog ER (fun cs => Value.agg cs.toArray) g lb f xs w) (hc : w.cell? ⟨B, 0, none⟩ = some (.func (.func g) #[] lb)) :
  CB Tryz.prog ER (fun cs => Value.agg cs.toArray) 140 #[.pointer (some ⟨B, 0, none⟩)] (fun x => (f x).map not) xs w := by
   intro W x cs b hb hm hK hf; obtain ⟨t, ht, rfl⟩ := Option.map_eq_some_iff.1 hf; have F3 := hK; have hc' : W.cell? ⟨B, 0, none⟩ = some (.func (.func g) #[] lb) := (hb.cell (p := ⟨B, 0, none⟩) hB).trans hc; obtain rfl := qP hK; (have hcall : ∀ W1, Below W.heap.size W W1 → Calls Tryz.prog g (#[(.agg #[(.int .i64 x.f0), (.int .i64 x.f1), (.string x.f2)])] ++ lb) W1 (fun e w' => e = .returned (.bool t) ∧ Below W1.heap.size W1 w') := fun W1 h1 => hp W1 x _ t (hb.trans (h1.mono hb.size)) hm (Kd.K_below _ h1 F3) ht); (have hcd := fun o : Obj => aBn o hc'); (have HN := am_ (show B ≠ W.heap.size from fun e => by have := hb.size; omega)); clear hp hf hK F3 hm hb hc ht; have hBW := HN.out; have hBW' := Ne.symm hBW
   show Calls Tryz.prog 140 #[(.agg #[(.int .i64 x.f0), (.int .i64 x.f1), (.string x.f2)]), .pointer (some ⟨B, 0, none⟩)] W _
   go_enter Tryz.func140, Tryz.ntmps140
   go_wp2_with (go_at_fn g; refine (hcall _ (by first | exact Below.refl _ _ | exact aAi (Below.refl _ _) _)).mono ?_; rintro e w' ⟨rfl, hb'⟩)
   go_ret
   (exact ⟨rfl, by first | exact hb' | exact (aAi (Below.refl _ _) _ : Below W.heap.size W _).trans (hb'.mono (by simp))⟩)
theorem NM.calls (f : S36 → Option Bool) (g : Nat) (lb : Array Value) (eg : ∀ args w, (callFunc g args).run Tryz.prog w = .ok (.enter g args) w) (A : Option Addr) (c : Nat) (xs : List S36) (r : Bool) (w : World) (hr : Kd.C ER w A xs.length xs) (hp : CB Tryz.prog ER (fun cs => Value.agg cs.toArray) g lb f xs w) (h : aHn f xs = some r) :
  Calls Tryz.prog 125 #[.slice A xs.length c, .func (.func g) #[] lb] w fun e w' => e = .returned (.bool r) ∧ Below w.heap.size w w' := by
 obtain ⟨j, hj, hjr⟩ := aEw h 0 (Int.le_refl _)
 have e_l : ∀ args w, (callFunc 140 args).run Tryz.prog w = .ok (.enter 140 args) w := enters_of Tryz.func140 (by kernel_rfl) rfl
 have hB0 : Below w.heap.size w (w.alloc (.cells #[.func (.func g) #[] lb] 145)) := aAi (Below.refl _ _) _
 have hp1 := CB.later hB0 hp
 have hnot := NM.not f g lb eg w.heap.size xs _ (by simp) hp1 (by simp)
 have hcall := TA.calls _ 140 _ e_l A c xs j _ (Kd.aAp hr hB0) hnot hj
 have HJ := am_ hjr
 clear hr hp h hjr hj hp1 hnot hB0
 go_enter Tryz.func125, Tryz.ntmps125
 go_wp2_with (go_at_call 139; refine hcall.mono ?_; rintro e w' ⟨rfl, hb'⟩)
 go_ret
 exact ⟨aDj (by rw [HJ.out]; cases r <;> rfl), (aAi (Below.refl _ _) _ : Below w.heap.size w _).trans (hb'.mono (by simp))⟩

def jO.f (aA aD : Int) (aH : ByteArray) : Option Bool := if aA = 0 then (if aD = 0 then (some (aH.toList == ([] : List UInt8))) else (some false)) else (if aA = 1 then (some (aH.toList == ([] : List UInt8))) else (if aA = 2 then ((dF.f aD 0 1).bind fun b6F => (if b6F = true then (some (aH.toList == ([] : List UInt8))) else (some false))) else (if aA = 3 then (if aD = 0 then (some (decide ((aH.size : Int) ≤ 100))) else (some false)) else (some false))))
theorem jO.calls (aA aD : Int) (aH : ByteArray) (r : Bool) (w : World) (h : jO.f aA aD aH = some r) :
  Calls Tryz.prog 126 #[.agg #[.int .i64 aA, .int .i64 aD, .string aH]] w fun e w' => e = .returned (.bool r) ∧ Below w.heap.size w w' := by
 have QU := Tryz.underlying36
 have HB := am_ (Below.refl w.heap.size w)
 have H : (if aA = 0 then (if aD = 0 then (some (aH.toList == ([] : List UInt8))) else (some false)) else (if aA = 1 then (some (aH.toList == ([] : List UInt8))) else (if aA = 2 then ((dF.f aD 0 1).bind fun b6F => (if b6F = true then (some (aH.toList == ([] : List UInt8))) else (some false))) else (if aA = 3 then (if aD = 0 then (some (decide ((aH.size : Int) ≤ 100))) else (some false)) else (some false))))) = some r := h
 clear h
 by_cases c2 : aA = 0
 ·rw [if_pos c2] at H
  have qD : (aA == 0) = true := beq_iff_eq.mpr c2; have JA : (aA != 0) = false := bne_eq_false_iff_eq.mpr c2; clear c2
  by_cases c3 : aD = 0
  ·rw [if_pos c3] at H
   have fC : (aD == 0) = true := beq_iff_eq.mpr c3; have lI : (aD != 0) = false := bne_eq_false_iff_eq.mpr c3; clear c3; obtain rfl := Option.some.inj H
   go_enter Tryz.func126, Tryz.ntmps126
   go_wp2_with (first | ((with_reducible refine aAc (N := 1) rfl ?_); (try (refine aAn (by rfl) ?_; dsimp only)); refine bx_ 1 #[.int .i64 aA, .int .i64 aD, .string aH] 36 ?_; intro YD hg w4 hbox hb; have zW := am_ (hbox); have XV := gw_ hg; replace HB := bs_ hb; clear hb hbox hg; obtain ⟨IG, JR, JN, IK, IW, IX⟩ := b3_ zW))
   go_ret
   exact ⟨er_, bb_⟩
  ·rw [if_neg c3] at H
   have fC : (aD == 0) = false := beq_eq_false_iff_ne.mpr c3; have lI : (aD != 0) = true := bne_iff_ne.mpr c3; obtain rfl := Option.some.inj H
   go_enter Tryz.func126, Tryz.ntmps126
   go_wp2_with (first | ((with_reducible refine aAc (N := 1) rfl ?_); (try (refine aAn (by rfl) ?_; dsimp only)); refine bx_ 1 #[.int .i64 aA, .int .i64 aD, .string aH] 36 ?_; intro YD hg w6 hbox hb; have zW := am_ (hbox); have XV := gw_ hg; replace HB := bs_ hb; clear hb hbox hg; obtain ⟨uN, uU, FR, uY, uP, FJ⟩ := b3_ zW))
   go_ret
   exact ⟨er_, bb_⟩
 ·rw [if_neg c2] at H
  have qD : (aA == 0) = false := beq_eq_false_iff_ne.mpr c2; have JA : (aA != 0) = true := bne_iff_ne.mpr c2
  by_cases c8 : aA = 1
  ·rw [if_pos c8] at H
   have J4 : (aA == 1) = true := beq_iff_eq.mpr c8; have aHL : (aA != 1) = false := bne_eq_false_iff_eq.mpr c8; clear c8; obtain rfl := Option.some.inj H
   go_enter Tryz.func126, Tryz.ntmps126
   go_wp2_with (first | ((with_reducible refine aAc (N := 1) rfl ?_); (try (refine aAn (by rfl) ?_; dsimp only)); refine bx_ 1 #[.int .i64 aA, .int .i64 aD, .string aH] 36 ?_; intro YD hg w9 hbox hb; have zW := am_ (hbox); have XV := gw_ hg; replace HB := bs_ hb; clear hb hbox hg; obtain ⟨lN, lL, nI, lM, lJ, nD⟩ := b3_ zW))
   go_ret
   exact ⟨er_, bb_⟩
  ·rw [if_neg c8] at H
   have J4 : (aA == 1) = false := beq_eq_false_iff_ne.mpr c8; have aHL : (aA != 1) = true := bne_iff_ne.mpr c8
   by_cases c11 : aA = 2
   ·rw [if_pos c11] at H
    have ND : (aA == 2) = true := beq_iff_eq.mpr c11; have b2W : (aA != 2) = false := bne_eq_false_iff_eq.mpr c11; clear c11; replace H := aBp H; obtain ⟨b6F, HY, H⟩ := H
    try dsimp only at H
    have KZ := am_ HY; clear HY
    by_cases c13 : b6F = true
    ·subst c13
     rw [if_pos rfl] at H; obtain rfl := Option.some.inj H
     go_enter Tryz.func126, Tryz.ntmps126
     go_wp2_with (first | ((with_reducible refine aAc (N := 1) rfl ?_); (try (refine aAn (by rfl) ?_; dsimp only)); refine bx_ 1 #[.int .i64 aA, .int .i64 aD, .string aH] 36 ?_; intro YD hg w14 hbox hb; have zW := am_ (hbox); have XV := gw_ hg; replace HB := bs_ hb; clear hb hbox hg; obtain ⟨pX, pU, rQ, pJ, pR, rR⟩ := b3_ zW) | ((with_reducible refine aAa (f := 77) rfl ?_); refine aBh (some 24) Tryz.func77 #[.int .i64 aD, .int .i64 0, .int .i64 1] ?_; (with_reducible refine (dF.calls _ _ _ _ _ KZ.out).mono ?_); rintro e w' ⟨rfl, ⟨nd, rfl⟩⟩; refine ⟨_, rfl, ?_⟩))
     go_ret
     exact ⟨er_, bb_⟩
    ·replace c13 := Bool.eq_false_iff.mpr c13
     subst c13; replace H := aZf H; obtain rfl := Option.some.inj H
     go_enter Tryz.func126, Tryz.ntmps126
     go_wp2_with (first | ((with_reducible refine aAc (N := 1) rfl ?_); (try (refine aAn (by rfl) ?_; dsimp only)); refine bx_ 1 #[.int .i64 aA, .int .i64 aD, .string aH] 36 ?_; intro YD hg w16 hbox hb; have zW := am_ (hbox); have XV := gw_ hg; replace HB := bs_ hb; clear hb hbox hg; obtain ⟨uE, sJ, vV, tL, uF, vS⟩ := b3_ zW) | ((with_reducible refine aAa (f := 77) rfl ?_); refine aBh (some 24) Tryz.func77 #[.int .i64 aD, .int .i64 0, .int .i64 1] ?_; (with_reducible refine (dF.calls _ _ _ _ _ KZ.out).mono ?_); rintro e w' ⟨rfl, ⟨nd, rfl⟩⟩; refine ⟨_, rfl, ?_⟩))
     go_ret
     exact ⟨er_, bb_⟩
   ·rw [if_neg c11] at H
    have ND : (aA == 2) = false := beq_eq_false_iff_ne.mpr c11; have b2W : (aA != 2) = true := bne_iff_ne.mpr c11
    by_cases c18 : aA = 3
    ·rw [if_pos c18] at H
     have a1M : (aA == 3) = true := beq_iff_eq.mpr c18; have b1H : (aA != 3) = false := bne_eq_false_iff_eq.mpr c18; clear c18
     by_cases c19 : aD = 0
     ·rw [if_pos c19] at H
      have U4 : (aD == 0) = true := beq_iff_eq.mpr c19; have aEB : (aD != 0) = false := bne_eq_false_iff_eq.mpr c19; clear c19; obtain rfl := Option.some.inj H
      go_enter Tryz.func126, Tryz.ntmps126
      go_wp2_with (first | ((with_reducible refine aAc (N := 1) rfl ?_); (try (refine aAn (by rfl) ?_; dsimp only)); refine bx_ 1 #[.int .i64 aA, .int .i64 aD, .string aH] 36 ?_; intro YD hg w20 hbox hb; have zW := am_ (hbox); have XV := gw_ hg; replace HB := bs_ hb; clear hb hbox hg; obtain ⟨uD, uC, y7, tZ, sU, yA⟩ := b3_ zW))
      go_ret
      exact ⟨er_, bb_⟩
     ·rw [if_neg c19] at H
      have U4 : (aD == 0) = false := beq_eq_false_iff_ne.mpr c19; have aEB : (aD != 0) = true := bne_iff_ne.mpr c19; obtain rfl := Option.some.inj H
      go_enter Tryz.func126, Tryz.ntmps126
      go_wp2_with (first | ((with_reducible refine aAc (N := 1) rfl ?_); (try (refine aAn (by rfl) ?_; dsimp only)); refine bx_ 1 #[.int .i64 aA, .int .i64 aD, .string aH] 36 ?_; intro YD hg w22 hbox hb; have zW := am_ (hbox); have XV := gw_ hg; replace HB := bs_ hb; clear hb hbox hg; obtain ⟨tC, sH, sQ, sK, sV, sS⟩ := b3_ zW))
      go_ret
      exact ⟨er_, bb_⟩
    ·rw [if_neg c18] at H
     have a1M : (aA == 3) = false := beq_eq_false_iff_ne.mpr c18; have b1H : (aA != 3) = true := bne_iff_ne.mpr c18; obtain rfl := Option.some.inj H
     go_enter Tryz.func126, Tryz.ntmps126
     go_wp2_with (first | ((with_reducible refine aAc (N := 1) rfl ?_); (try (refine aAn (by rfl) ?_; dsimp only)); refine bx_ 1 #[.int .i64 aA, .int .i64 aD, .string aH] 36 ?_; intro YD hg w24 hbox hb; have zW := am_ (hbox); have XV := gw_ hg; replace HB := bs_ hb; clear hb hbox hg; obtain ⟨uG, uH, vI, sI, tO, vQ⟩ := b3_ zW))
     go_ret
     exact ⟨er_, bb_⟩

def l7.f (l0 : List S36) (a1 : Int) : Option Bool := if (l0.length : Int) = a1 then aHn (fun x => jO.f x.f0 x.f1 x.f2) l0 else some false
theorem aPi (xs : List S36) (w : World) : CB Tryz.prog ER (fun cs => Value.agg cs.toArray) 126 #[] (fun x => jO.f x.f0 x.f1 x.f2) xs w := by
  intro W x cs b _ _ hK hf
  obtain rfl := qP hK
  refine Calls.mono (show Calls Tryz.prog 126 #[.agg #[.int .i64 x.f0, .int .i64 x.f1, .string x.f2]] W _ from jO.calls _ _ _ b W hf) ?_
  rintro e w' ⟨rfl, hb⟩
  exact ⟨rfl, by first | exact hb | (obtain ⟨nd, rfl⟩ := hb; exact aAo (Below.refl _ _) _)⟩
theorem l7.calls (A0 : Option Addr) (c0 : Nat) (l0 : List S36) (a1 : Int) (r : Bool) (w : World) (hr0 : Kd.C ER w A0 l0.length l0) (hc0 : l0.length ≤ c0) (h : l7.f l0 a1 = some r) :
    Calls Tryz.prog 105 #[.slice A0 l0.length c0, .int .i64 a1] w fun e w' => e = .returned (.bool r) ∧ Below w.heap.size w w' := by
  unfold l7.f at h
  by_cases hl : (l0.length : Int) = a1
  · rw [if_pos hl] at h
    have eg : ∀ args w, (callFunc 126 args).run Tryz.prog w = .ok (.enter 126 args) w := enters_of Tryz.func126 (by kernel_rfl) rfl
    have hcall := fun W (hb : Below w.heap.size w W) => NM.calls _ 126 #[] eg A0 c0 l0 r W (Kd.aAp hr0 hb) (aPi l0 W) h
    have hl1 : ((l0.length : Int) == a1) = true := beq_iff_eq.mpr hl
    clear hr0 h hl
    go_enter Tryz.func105, Tryz.ntmps105
    go_wp2_with (go_at_call 125; refine (hcall _ (by repeat (first | exact Below.refl _ _ | apply aAi | apply aAo))).mono ?_; rintro e w' ⟨rfl, hb'⟩)
    go_ret
    exact ⟨rfl, by first | exact hb' | exact (aAo (Below.refl _ _) _ : Below w.heap.size w _).trans hb'⟩
  · rw [if_neg hl] at h
    obtain rfl := Option.some.inj h
    have hl1 : ((l0.length : Int) == a1) = false := beq_eq_false_iff_ne.mpr hl
    clear h hl
    go_enter Tryz.func105, Tryz.ntmps105
    go_wp2
    go_ret
    exact ⟨rfl, by repeat (first | exact Below.refl _ _ | apply aAo)⟩

theorem UE.calls (f : S36 → S36 → Option Int) (g : Nat) (lb : Array Value) (eg : ∀ args w, (callFunc g args).run Tryz.prog w = .ok (.enter g args) w) (A : Option Addr) (c : Nat) (xs : List S36) (B : Option Addr) (d : Nat) (ys : List S36) (r : Int) (w : World) (hr : Kd.C ER w A xs.length xs) (hs : Kd.C ER w B ys.length ys) (hp : CB2 Tryz.prog ER (fun cs => Value.agg cs.toArray) g lb f xs ys w) (h : aOo f xs ys = some r) :
  Calls Tryz.prog 127 #[.slice A xs.length c, .slice B ys.length d, .func (.func g) #[] lb] w fun e w' => e = .returned (.int .i64 r) ∧ Below w.heap.size w w' := by
 have hu := Tryz.underlying36
 have hbig : xs.length ≤ 9223372036854775807 := hr.2.1
 have HR := am_ hr
 have HS := am_ hs
 have HP := am_ hp
 have HX := am_ h
 clear hr hs hp h
 go_enter Tryz.func127, Tryz.ntmps127
 go_wp2
 go_loopg [13] xs.length (fun gg s13 wr => ∃ x : Int, s13 = .int .i64 x ∧ Aside0 (0 ≤ x ∧ x ≤ xs.length ∧ x ≤ ys.length ∧ xs.length - x.toNat ≤ gg ∧ aOo f (xs.drop x.toNat) (ys.drop x.toNat) = some r ∧ Below w.heap.size w wr))
 case atStart => exact ⟨0, rfl, ⟨by omega, by omega, by omega, by simp, by simpa using HX.out, Below.refl _ _⟩⟩
 case round =>
  obtain ⟨x, rfl, HI⟩ := hrel; obtain ⟨x0, x1, x2, hg, hi, BW⟩ := HI.out
  by_cases hlt : x < (xs.length : Int)
  ·have c4 : decide (x < (xs.length : Int)) = true := decide_eq_true hlt
   have c5 : decide (0 ≤ x) = true := decide_eq_true x0; obtain ⟨ad, cs, rfl, hl, hK, hcella⟩ := Kd.aEj (Kd.aAp HR.out BW) (z36 : S36) x x0 hlt
   by_cases hlt2 : x < (ys.length : Int)
   ·have c6 : decide (x < (ys.length : Int)) = true := decide_eq_true hlt2
    have c7 : decide ((ys.length : Int) ≤ x) = false := decide_eq_false (by omega); obtain ⟨ae, ds, rfl, hm, hL, hcellb⟩ := Kd.aEj (Kd.aAp HS.out BW) (z36 : S36) x x0 hlt2; obtain ⟨b, hb, hxm, hym, ht, hf⟩ := aRr (z36 : S36) x0 hlt hlt2 hi; generalize xs.getD x.toNat (z36 : S36) = p at hK hb hxm; generalize ys.getD x.toNat (z36 : S36) = q at hL hb hym; obtain rfl := qP hK; obtain rfl := qP hL; replace hcella : ∀ j u, ([(.int .i64 p.f0), (.int .i64 p.f1), (.string p.f2)] : List Value)[j]? = some u → wr.cell? (ad.add (x.toNat * 3 + j)) = some u := hcella; have c7P : wr.cell? (ad.add (x.toNat * 3)) = some (.int .i64 p.f0) := hcella 0 _ rfl; (have d2X : wr.cell? ⟨(ad.add (x.toNat * 3)).block, (ad.add (x.toNat * 3)).off + 1, none⟩ = some (.int .i64 p.f1) := by rw [← aAg _ _ 1 (by omega)]; exact hcella 1 _ rfl); (have d2Y : wr.cell? ⟨(ad.add (x.toNat * 3)).block, (ad.add (x.toNat * 3)).off + 2, none⟩ = some (.string p.f2) := by rw [← aAg _ _ 2 (by omega)]; exact hcella 2 _ rfl); replace hcellb : ∀ j u, ([(.int .i64 q.f0), (.int .i64 q.f1), (.string q.f2)] : List Value)[j]? = some u → wr.cell? (ae.add (x.toNat * 3 + j)) = some u := hcellb; have hcb0 : wr.cell? (ae.add (x.toNat * 3)) = some (.int .i64 q.f0) := hcellb 0 _ rfl; (have d6F : wr.cell? ⟨(ae.add (x.toNat * 3)).block, (ae.add (x.toNat * 3)).off + 1, none⟩ = some (.int .i64 q.f1) := by rw [← aAg _ _ 1 (by omega)]; exact hcellb 1 _ rfl); (have d38 : wr.cell? ⟨(ae.add (x.toNat * 3)).block, (ae.add (x.toNat * 3)).off + 2, none⟩ = some (.string q.f2) := by rw [← aAg _ _ 2 (by omega)]; exact hcellb 2 _ rfl); (have hcall : ∀ W, Below wr.heap.size wr W → Calls Tryz.prog g (#[(.agg #[(.int .i64 p.f0), (.int .i64 p.f1), (.string p.f2)]), (.agg #[(.int .i64 q.f0), (.int .i64 q.f1), (.string q.f2)])] ++ lb) W fun e w' => e = .returned (.int .i64 b) ∧ Below W.heap.size W w' := fun W hW => HP.out W _ _ _ _ b (BW.trans (hW.mono BW.size)) hxm hym (Kd.K_below _ hW hK) (Kd.K_below _ hW hL) hb); have HC := am_ hcall; (have hd0 := fun o : Obj => aBn o hcb0); (have hd1 := fun o : Obj => aBn o d6F); (have hd2 := fun o : Obj => aBn o d38); (have hz1 : wr.heap.size ≠ wr.heap.size + 1 := by omega); (have hz2 : wr.heap.size + 1 ≠ wr.heap.size := by omega); have HA := am_ (aNs c7P); have HB := am_ (aNs hcb0); have hn1 : (ad.add (x.toNat * 3)).block ≠ wr.heap.size := Nat.ne_of_lt HA.out; have hn2 : (ae.add (x.toNat * 3)).block ≠ wr.heap.size := Nat.ne_of_lt HB.out
    by_cases hb0 : b = 0
    ·subst hb0
     have HJ := am_ (And.intro hg (And.intro (hf rfl) BW)); clear hcella hcellb hK hL hb hxm hym ht hf hi BW HI hg hl hm hcall
     go_wp2_with (go_at_fn g; refine (HC.out _ ?_).mono ?_; (repeat (first | exact Below.refl _ _ | apply aAi | (refine aAk ?_ (by simp)))); rintro e w' ⟨rfl, hb'⟩)
     go_roundg (xs.length - (x.toNat + 1))
     case measure => have := HJ.out.1; omega
     case rel => exact ⟨x + 1, by go_num, ⟨by omega, by omega, by omega, by omega, HJ.out.2.1, HJ.out.2.2.trans (((show Below wr.heap.size wr _ from by repeat (first | exact Below.refl _ _ | apply aAi | (refine aAk ?_ (by simp)))).trans (hb'.mono (by simp <;> omega))).mono HJ.out.2.2.size)⟩⟩
    ·have hb1 : (b == 0) = false := beq_eq_false_iff_ne.mpr hb0
     have hb2 : (b != 0) = true := bne_iff_ne.mpr hb0; have HJ := am_ (And.intro (ht hb0) BW); clear hcella hcellb hK hL hb hxm hym ht hf hi BW HI hg hl hm hcall
     go_wp2_with (go_at_fn g; refine (HC.out _ ?_).mono ?_; (repeat (first | exact Below.refl _ _ | apply aAi | (refine aAk ?_ (by simp)))); rintro e w' ⟨rfl, hb'⟩)
     go_ret
     (exact ⟨aDo HJ.out.1.symm, HJ.out.2.trans (((show Below wr.heap.size wr _ from by repeat (first | exact Below.refl _ _ | apply aAi | (refine aAk ?_ (by simp)))).trans (hb'.mono (by simp <;> omega))).mono HJ.out.2.size)⟩)
   ·have c7 : decide ((ys.length : Int) ≤ x) = true := decide_eq_true (by omega)
    have hr1 : r = 1 := aPy hlt hlt2 x0 hi; subst hr1; generalize xs.getD x.toNat (z36 : S36) = p at hK; obtain rfl := qP hK; replace hcella : ∀ j u, ([(.int .i64 p.f0), (.int .i64 p.f1), (.string p.f2)] : List Value)[j]? = some u → wr.cell? (ad.add (x.toNat * 3 + j)) = some u := hcella; have c7P : wr.cell? (ad.add (x.toNat * 3)) = some (.int .i64 p.f0) := hcella 0 _ rfl; (have d2X : wr.cell? ⟨(ad.add (x.toNat * 3)).block, (ad.add (x.toNat * 3)).off + 1, none⟩ = some (.int .i64 p.f1) := by rw [← aAg _ _ 1 (by omega)]; exact hcella 1 _ rfl); (have d2Y : wr.cell? ⟨(ad.add (x.toNat * 3)).block, (ad.add (x.toNat * 3)).off + 2, none⟩ = some (.string p.f2) := by rw [← aAg _ _ 2 (by omega)]; exact hcella 2 _ rfl); have HJ := am_ BW; clear hcella hK hi BW HI hg hl
    go_wp2
    go_ret
    (exact ⟨rfl, HJ.out.trans ((show Below wr.heap.size wr _ from by repeat (first | exact Below.refl _ _ | apply aAi | (refine aAk ?_ (by simp)))).mono HJ.out.size)⟩)
  ·have c4 : decide (x < (xs.length : Int)) = false := decide_eq_false hlt
   by_cases hlt2 : x < (ys.length : Int)
   ·have c6 : decide ((xs.length : Int) < (ys.length : Int)) = true := decide_eq_true (by omega)
    (have c8 : xs.length < ys.length := by omega); have hr1 : r = -1 := aSj hlt hlt2 x0 hi; subst hr1; clear hi HI
    go_wp2
    go_ret
    exact ⟨rfl, BW⟩
   ·have c6 : decide ((xs.length : Int) < (ys.length : Int)) = false := decide_eq_false (by omega)
    (have c8 : ¬ xs.length < ys.length := by omega); have hr1 : r = 0 := aTm hlt hlt2 hi; subst hr1; clear hi HI
    go_wp2
    go_ret
    exact ⟨rfl, BW⟩

def aBv.l0 : Nat → Int → List Int → Int → Int → Option Int
 | 0, _, _, _, _ => none
 | k + 1, x3, x6, x7, x8 => if x8 < x7 then (if 0 ≤ x8 then (if x8 < (x6.length : Int) then (if (rd x6 x8) = x3 then (aBv.l0 k x3 x6 x7 (wrap64 (x8 + 1))) else (some (rd x6 x8))) else (none)) else (none)) else (some x3)
def aBv.f (k : Nat) (l0 : List Int) : Option Int := aBv.l0 k 0 l0 (l0.length : Int) 0
theorem aBv.calls (k : Nat) (A0 : Option Addr) (c0 : Nat) (l0 : List Int) (r : Int) (w : World) (hr0 : Kd.C (Kd.int .i64) w A0 l0.length l0) (hc0 : l0.length ≤ c0) (h : aBv.f k l0 = some r) :
  Calls Tryz.prog 141 #[.slice A0 l0.length c0] w fun e w' => e = .returned (.int .i64 r) ∧ aAu w w' := by
 have jY := am_ hr0
 have oQ := am_ hc0
 clear hr0 hc0
 have H : (aBv.l0 k 0 l0 (l0.length : Int) 0) = some r := h
 clear h
 have H' := am_ H
 clear H
 go_enter Tryz.func141, Tryz.ntmps141
 go_wp2
 go_loopg [8] k (fun kq v8 w' => ∃ (gU : Int), v8 = .int .i64 gU ∧ Aside0 (aBv.l0 kq 0 l0 (l0.length : Int) gU = some r) ∧ Aside0 (kq ≤ k) ∧ aAu w w')
 case atStart => exact ⟨(0), rs_, H', ⟨Nat.le_refl _⟩, by repeat (first | exact aAu.refl _ | apply aAu.step)⟩
 case round =>
  clear H'; (try clear c1); obtain ⟨gU, rfl, HA, jK, ⟨m1, rfl⟩⟩ := hrel
  cases gk with
  | zero => exact absurd HA.out (by simp [aBv.l0])
  | succ k1 =>
   have H := HA.out; clear HA; simp only [aBv.l0] at H
   by_cases c2 : gU < (l0.length : Int)
   ·rw [if_pos c2] at H
    have qD := decide_eq_true c2; clear c2
    by_cases c3 : 0 ≤ gU
    ·rw [if_pos c3] at H
     have fC := decide_eq_true c3; clear c3
     by_cases c4 : gU < (l0.length : Int)
     ·rw [if_pos c4] at H
      have iB := decide_eq_true c4; clear c4; have gY := am_ H; clear H; (have bYG : 0 ≤ (gU : Int) := oa_); (have bZQ : gU < (l0.length : Int) := oa_); obtain ⟨d7M, d48, d0I⟩ := Kd.aCe jY.out gU bYG bZQ; cases d48; replace bYG := eq_true bYG; replace bZQ := eq_true bZQ; have H := gY.out; clear gY
      by_cases c5 : (rd l0 gU) = 0
      ·rw [if_pos c5] at H
       have pV : ((rd l0 gU) == 0) = true := beq_iff_eq.mpr c5; have NR : ((rd l0 gU) != 0) = false := bne_eq_false_iff_eq.mpr c5; clear c5; have H' := am_ H; clear H
       go_wp2
       go_roundg k1
       case measure => have := jK.out; omega
       case rel => exact ⟨(wrap64 (gU + 1)), rs_, H', ⟨by have := jK.out; omega⟩, by repeat (first | exact aAu.refl _ | apply aAu.step)⟩
      ·rw [if_neg c5] at H
       have pV : ((rd l0 gU) == 0) = false := beq_eq_false_iff_ne.mpr c5; have NR : ((rd l0 gU) != 0) = true := bne_iff_ne.mpr c5; obtain rfl := Option.some.inj H
       go_wp2
       go_ret
       (exact ⟨by first | rfl | (simp; done) | (simp [*]; done), by repeat (first | exact aAu.refl _ | apply aAu.step)⟩)
     ·rw [if_neg c4] at H
      exact nn_ H
    ·rw [if_neg c3] at H
     exact nn_ H
   ·rw [if_neg c2] at H
    have qD := decide_eq_false c2; clear c2; obtain rfl := Option.some.inj H
    go_wp2
    go_ret
    (exact ⟨by first | rfl | (simp; done) | (simp [*]; done), by repeat (first | exact aAu.refl _ | apply aAu.step)⟩)

def cmp_isNaN_int.f (a0 : Int) : Option Bool := some (a0 != a0)
theorem cmp_isNaN_int.calls (a0 : Int) (r : Bool) (w : World) (h : cmp_isNaN_int.f a0 = some r) :
  Calls Tryz.prog 149 #[.int .i64 a0] w fun e w' => e = .returned (.bool r) ∧ aAu w w' := by
 have H : (some (a0 != a0)) = some r := h
 clear h
 obtain rfl := Option.some.inj H
 go_enter Tryz.func149, Tryz.ntmps149
 go_wp2
 go_ret
 exact ⟨by first | rfl | (simp; done) | (simp [*]; done), by repeat (first | exact aAu.refl _ | apply aAu.step)⟩
end Go.Proofs.YtnobhkmpkichdaaGreat.PFnExactViewsOk
