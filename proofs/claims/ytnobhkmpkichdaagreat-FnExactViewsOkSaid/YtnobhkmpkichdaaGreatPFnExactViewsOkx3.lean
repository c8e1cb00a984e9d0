import Derived.Test.YtnobhkmpkichdaaGreatPress5
import Derived.Test.YtnobhkmpkichdaaGreatPFnExactViewsOkx0
import Derived.Test.YtnobhkmpkichdaaGreatPFnExactViewsOkx2
namespace Go.Proofs.YtnobhkmpkichdaaGreat.PFnExactViewsOk
open Go.RowKit YtnobhkmpkichdaaGreatW.PrintWords YtnobhkmpkichdaaGreatW.PrintLast YtnobhkmpkichdaaGreatW.PrintMore
attribute [local go_sem] aDf aDi aEf aEe aCs aCt aDh aDg
set_option linter.unusedVariables false
set_option maxHeartbeats 8000000
set_option maxRecDepth 100000
set_option linter.unusedSimpArgs false
attribute [local go_sem high] aM0
def dL.l0 : Nat → List Int → Int → Int → Option (List Int)
 | 0, _, _, _ => none
 | k + 1, x0, x1, x5 => if x5 < (x0.length : Int) then (if 0 ≤ x5 then (if (rd x0 x5) < x1 then (dL.l0 k x0 x1 (wrap64 (x5 + 1))) else (if (rd x0 x5) = x1 then (some x0) else ((some (([] : List Int) : List Int)).bind fun a0B => (if x5 ≤ (x0.length : Int) then (if a0B.length + (x0.take (x5 : Int).toNat).length < 17592186044416 then ((some (a0B ++ (x0.take (x5 : Int).toNat) : List Int)).bind fun NN => ((some (([x1] : List Int) : List Int)).bind fun I4 => (if NN.length + I4.length < 17592186044416 then ((some (NN ++ I4 : List Int)).bind fun IU => (if IU.length + (x0.drop (x5 : Int).toNat).length < 17592186044416 then (some (IU ++ (x0.drop (x5 : Int).toNat))) else (none))) else (none)))) else (none)) else (none))))) else (none)) else ((some (([] : List Int) : List Int)).bind fun a0O => (if 0 ≤ x5 then (if x5 ≤ (x0.length : Int) then (if a0O.length + (x0.take (x5 : Int).toNat).length < 17592186044416 then ((some (a0O ++ (x0.take (x5 : Int).toNat) : List Int)).bind fun NP => ((some (([x1] : List Int) : List Int)).bind fun I1 => (if NP.length + I1.length < 17592186044416 then ((some (NP ++ I1 : List Int)).bind fun KD => (if KD.length + (x0.drop (x5 : Int).toNat).length < 17592186044416 then (some (KD ++ (x0.drop (x5 : Int).toNat))) else (none))) else (none)))) else (none)) else (none)) else (none)))
def dL.f (k : Nat) (l0 : List Int) (a1 : Int) : Option (List Int) := dL.l0 k l0 a1 0
def dL.T6 : Bool × List (List Nat × List Nat) := (true, [([], []), ([], []), ([], []), ([1, 2], [1, 2]), ([0, 3], [0, 3]), ([], []), ([5], [5]), ([4, 6, 4], [4, 6]), ([], []), ([], []), ([8, 9], [8, 9]), ([7, 10, 7], [7, 10]), ([11, 11, 0, 1, 2, 3, 4, 5, 6, 7, 8, 9, 10, 11], [11])])
def dL.B6 : List Nat := [0, 0, 0, 6, 15, 0, 32, 127, 0, 0, 768, 2047, 4095]
theorem dL.BF : aEr .any (opsOf Tryz.f92 6) = dL.T6 := by kernel_rfl
theorem dL.pY : aBu dL.T6.2 dL.B6 = true := by kernel_rfl
theorem bS0 {B : Nat} {w W : World} (h : Below B w W := by repeat (first | (with_reducible first | exact HB.out | apply aAi | apply aAo | apply aAm) | exact HB.out)) : Below B w W := h
theorem dL.calls (k : Nat) (A0 : Option Addr) (c0 : Nat) (l0 : List Int) (a1 : Int) (r : List Int) (b_ : Nat) (w : World) (hb_ : b_ ≤ w.heap.size) (ho_ : Kd.R (Kd.int .i64) 3 w b_ (fun _ => True) (.slice A0 l0.length c0) l0) (h : dL.f k l0 a1 = some r) :
  Calls Tryz.prog 92 #[.slice A0 l0.length c0, .int .i64 a1] w fun e w' => ∃ I7 : Value, e = .returned (I7) ∧ Kd.R (Kd.int .i64) 3 w' b_ (fun _ => True) I7 r ∧ Below w.heap.size w w' := by
 have hr0 := (Kd.aAr ho_).2.2
 have hc0 := (Kd.aAr ho_).2.1
 have HO_ := am_ ho_
 have HB_ := am_ hb_
 clear ho_ hb_
 have jY := am_ hr0
 have oQ := am_ hc0
 clear hr0 hc0
 have HB := am_ (Below.refl w.heap.size w)
 have H : (dL.l0 k l0 a1 0) = some r := h
 clear h
 have H' := am_ H
 clear H
 go_enter Tryz.func92, Tryz.ntmps92
 go_wp2
 go_loopg [5] k (fun kq v5 w' => ∃ (aC : Int), v5 = .int .i64 aC ∧ Aside0 (dL.l0 kq l0 a1 aC = some r) ∧ Aside0 (kq ≤ k) ∧ Aside0 (Below w.heap.size w w'))
 case atStart => exact ⟨(0), rs_, H', ⟨Nat.le_refl _⟩, ⟨bb_⟩⟩
 case round =>
  clear H'; (try clear p2); obtain ⟨aC, rfl, HA, jK, HB⟩ := hrel
  cases gk with
  | zero => exact absurd HA.out (by simp [dL.l0])
  | succ k1 =>
   have H := HA.out; clear HA; simp only [dL.l0] at H
   by_cases c3 : aC < (l0.length : Int)
   ·rw [if_pos c3] at H
    have fC := decide_eq_true c3; clear c3
    by_cases c4 : 0 ≤ aC
    ·rw [if_pos c4] at H
     have iB := decide_eq_true c4; clear c4
     by_cases c5 : (rd l0 aC) < a1
     ·rw [if_pos c5] at H
      have pV := decide_eq_true c5; clear c5; have H' := am_ H; clear H; (have XR : 0 ≤ (aC : Int) := oa_); (have Y1 : aC < (l0.length : Int) := oa_); obtain ⟨a1B, e215, CY⟩ := Kd.aCe jY.out aC XR Y1; cases e215; replace CY := hb_ HB CY; replace XR := eq_true XR; replace Y1 := eq_true Y1
      go_wp2
      go_roundg k1
      case measure => have := jK.out; omega
      case rel => exact ⟨(wrap64 (aC + 1)), rs_, H', ⟨by have := jK.out; omega⟩, ⟨bb_⟩⟩
     ·rw [if_neg c5] at H
      have pV := decide_eq_false c5; clear c5
      by_cases c6 : (rd l0 aC) = a1
      ·rw [if_pos c6] at H
       have mY : ((rd l0 aC) == a1) = true := beq_iff_eq.mpr c6; have aK0 : ((rd l0 aC) != a1) = false := bne_eq_false_iff_eq.mpr c6; clear c6; obtain rfl := Option.some.inj H; (have XR : 0 ≤ (aC : Int) := oa_); (have Y1 : aC < (l0.length : Int) := oa_); obtain ⟨a1B, e215, CY⟩ := Kd.aCe jY.out aC XR Y1; cases e215; replace CY := hb_ HB CY; replace XR := eq_true XR; replace Y1 := eq_true Y1; (have aJS : 0 ≤ (aC : Int) := oa_); (have aIZ : aC < (l0.length : Int) := oa_); obtain ⟨b6A, e216, Q4⟩ := Kd.aCe jY.out aC aJS aIZ; obtain rfl : a1B = b6A := (by injection e216); replace Q4 := hb_ HB Q4; replace aJS := eq_true aJS; replace aIZ := eq_true aIZ
       go_wp2
       go_ret
       (exact ⟨_, rr_, Kd.aAs HO_.out (bb_), bS0⟩)
      ·rw [if_neg c6] at H
       have mY : ((rd l0 aC) == a1) = false := beq_eq_false_iff_ne.mpr c6; have aK0 : ((rd l0 aC) != a1) = true := bne_iff_ne.mpr c6; obtain ⟨a0B, aHQ⟩ : ∃ y_ : List Int, y_ = (([] : List Int)) := ⟨_, rfl⟩; (replace H : (if aC ≤ (l0.length : Int) then (if a0B.length + (l0.take (aC : Int).toNat).length < 17592186044416 then ((some (a0B ++ (l0.take (aC : Int).toNat) : List Int)).bind fun NN => ((some (([a1] : List Int) : List Int)).bind fun I4 => (if NN.length + I4.length < 17592186044416 then ((some (NN ++ I4 : List Int)).bind fun IU => (if IU.length + (l0.drop (aC : Int).toNat).length < 17592186044416 then (some (IU ++ (l0.drop (aC : Int).toNat))) else (none))) else (none)))) else (none)) else (none)) = some r := by first | (rw [aHQ]; with_reducible exact H) | (have jC := (Option.bind_some _ _).symm.trans H; rw [aHQ]; with_reducible exact jC) | (have jC := (Option.bind_some _ _).symm.trans H; with_reducible exact jC) | with_reducible exact H | (rw [aHQ]; exact H) | exact H); have aY2 := am_ aHQ; clear aHQ; (have iV := eq_true (oa_ : 0 ≤ aC))
       by_cases c8 : aC ≤ (l0.length : Int)
       ·rw [if_pos c8] at H
        have J4 := eq_true c8; have aHL := decide_eq_true c8; clear c8
        by_cases c9 : a0B.length + (l0.take (aC : Int).toNat).length < 17592186044416
        ·rw [if_pos c9] at H
         have bY1 := am_ c9; clear c9; obtain ⟨NN, aIP⟩ : ∃ y_ : List Int, y_ = (a0B ++ (l0.take (aC : Int).toNat)) := ⟨_, rfl⟩; (replace H : ((some (([a1] : List Int) : List Int)).bind fun I4 => (if NN.length + I4.length < 17592186044416 then ((some (NN ++ I4 : List Int)).bind fun IU => (if IU.length + (l0.drop (aC : Int).toNat).length < 17592186044416 then (some (IU ++ (l0.drop (aC : Int).toNat))) else (none))) else (none))) = some r := by first | (rw [aIP]; with_reducible exact H) | (have jC := (Option.bind_some _ _).symm.trans H; rw [aIP]; with_reducible exact jC) | (have jC := (Option.bind_some _ _).symm.trans H; with_reducible exact jC) | with_reducible exact H | (rw [aIP]; exact H) | exact H); have b30 := am_ aIP; clear aIP; obtain ⟨I4, aEJ⟩ : ∃ y_ : List Int, y_ = (([a1] : List Int)) := ⟨_, rfl⟩; (replace H : (if NN.length + I4.length < 17592186044416 then ((some (NN ++ I4 : List Int)).bind fun IU => (if IU.length + (l0.drop (aC : Int).toNat).length < 17592186044416 then (some (IU ++ (l0.drop (aC : Int).toNat))) else (none))) else (none)) = some r := by first | (rw [aEJ]; with_reducible exact H) | (have jC := (Option.bind_some _ _).symm.trans H; rw [aEJ]; with_reducible exact jC) | (have jC := (Option.bind_some _ _).symm.trans H; with_reducible exact jC) | with_reducible exact H | (rw [aEJ]; exact H) | exact H); have a1C := am_ aEJ; clear aEJ
         by_cases c10 : NN.length + I4.length < 17592186044416
         ·rw [if_pos c10] at H
          have cD3 := am_ c10; clear c10; obtain ⟨IU, aI6⟩ : ∃ y_ : List Int, y_ = (NN ++ I4) := ⟨_, rfl⟩; (replace H : (if IU.length + (l0.drop (aC : Int).toNat).length < 17592186044416 then (some (IU ++ (l0.drop (aC : Int).toNat))) else (none)) = some r := by first | (rw [aI6]; with_reducible exact H) | (have jC := (Option.bind_some _ _).symm.trans H; rw [aI6]; with_reducible exact jC) | (have jC := (Option.bind_some _ _).symm.trans H; with_reducible exact jC) | with_reducible exact H | (rw [aI6]; exact H) | exact H); have cEL := am_ aI6; clear aI6; (have ND := eq_true (oa_ : 0 ≤ aC)); (have uK := eq_true (oa_ : aC ≤ (l0.length : Int)))
          by_cases c13 : IU.length + (l0.drop (aC : Int).toNat).length < 17592186044416
          ·rw [if_pos c13] at H
           have cKJ := am_ c13; clear c13; obtain ⟨d55, aFJ⟩ : ∃ y_ : List Int, y_ = (IU ++ (l0.drop (aC : Int).toNat)) := ⟨_, rfl⟩; (replace H : (some d55) = some r := by first | (rw [aFJ]; with_reducible exact H) | (have jC := (Option.bind_some _ _).symm.trans H; rw [aFJ]; with_reducible exact jC) | (have jC := (Option.bind_some _ _).symm.trans H; with_reducible exact jC) | with_reducible exact H | (rw [aFJ]; exact H) | exact H); have cI2 := am_ aFJ; clear aFJ; obtain rfl := Option.some.inj H; (have XR : 0 ≤ (aC : Int) := oa_); (have Y1 : aC < (l0.length : Int) := oa_); obtain ⟨a1B, e215, CY⟩ := Kd.aCe jY.out aC XR Y1; cases e215; replace CY := hb_ HB CY; replace XR := eq_true XR; replace Y1 := eq_true Y1; (have aJS : 0 ≤ (aC : Int) := oa_); (have aIZ : aC < (l0.length : Int) := oa_); obtain ⟨b6A, e216, Q4⟩ := Kd.aCe jY.out aC aJS aIZ; obtain rfl : a1B = b6A := (by injection e216); replace Q4 := hb_ HB Q4; replace aJS := eq_true aJS; replace aIZ := eq_true aIZ
           try go_wp2
           replace HB := am_ (aAm HB.out); obtain ⟨dD1, bQF, _, bQV, _⟩ := info_parts info3; (obtain ⟨d77, cMI, cMJ⟩ := aGz (P := Tryz.prog) (Value.int .i64) 0 99 3 .i64 Tryz.underlying99 bQF bQV (some a1B) c0 l0 aC (oa_) (oa_) oQ.out); (have NB := am_ (Kd.aGh (h1 := fun _ => rfl) (cMI _ (Kd.aEk jY.out)))); have d95 := am_ cMJ; clear cMI cMJ bQF bQV; obtain ⟨dDX, bPD, _, bPG, _⟩ := info_parts info3; (obtain ⟨A16, d3A, cLM, cDB⟩ := aHb (P := Tryz.prog) (Value.int .i64) 0 99 3 .i64 Tryz.underlying99 bPD bPG (some a1B) c0 l0 aC (oa_) (oa_) oQ.out); (have b7J := am_ (Kd.aGh (h1 := fun _ => rfl) (cLM _ (Kd.aEk jY.out)))); have d86 := am_ cDB; clear cLM cDB bPD bPG; (refine aOt (n := 13) (S := fun w' => True) (ds := []) (tf 0 13) (by kernel_rfl) rfl rfl trivial (fun hHeld => ?_); refine aAv dL.BF dL.pY (fun HT_ HW_ => ?_)); generalize wr.drew = w14 at HB NB b7J hHeld ⊢; refine aBa 1 (bm 13 2) ?_; refine aBa 2 (bm 13 6) ?_; refine aBa 3 (bm 13 14) ?_; refine aBa 5 (bm 13 46) ?_; refine aBa 8 (bm 13 302) ?_; refine aBa 9 (bm 13 814) ?_; refine aBa 10 (bm 13 1838) ?_; refine aXr (σ := Value × Value × Value) 3 (bm 13 1919) (fun s_ => [(33, s_.1), (37, s_.2.1), (39, s_.2.2)]) (fun s_ w' => (Kd.R (Kd.int .i64) 3 w' w.heap.size (fun k_ => some k_ ≠ (s_.2.2 : Value).ownBlock) s_.2.1 NN) ∧ (Kd.R (Kd.int .i64) 3 w' w.heap.size (fun k_ => some k_ ≠ (s_.2.1 : Value).ownBlock) s_.2.2 I4) ∧ (Below w.heap.size w w')) ?_ ?_; rotate_left
           ·intro hCont
            refine aXv (i := 0) (j := 6) (Ni := some 33) (Nj := some 39) (bm 13 1839) (bm 13 1902) rfl rfl rfl rfl (aOq HT_.out (by kernel_rfl)) (by decide) (by decide) (fun K hK => ?_) (fun K hK => ?_)
            ·skip
             (refine Kd.aCl (Kd.int .i64) _ 3 ?hg (N := 33) ?hd (xs := ([] : List Int)) (inner := []) (ok := fun _ => True) (okp := fun _ => True) ?hr ?hp (fun _ hk => hk) trivial (Below.refl _ _) (Nat.le_refl _) (by simp) ?_; (case hd => rfl); (case hg => rfl); (case hr => first | (go_simp; done) | (go_simp; rfl)); (case hp => exact (aBt.none _ _))); intro v218 w17 Z7 hb DZ j4; clear DZ j4; (first | rw [← aY2.out] at Z7 | (simp only [Int.reduceToNat] at Z7; rw [← aY2.out] at Z7)); have NF := am_ (Kd.aBc Z7 (aAj bb_)); replace HB := bs_ hb; clear hb Z7; refine hK.out _ _ trivial (fun hHeld => ?_); clear hK K; refine nm_ ?_; refine aXv (i := 4) (j := 6) (Ni := some 37) (Nj := some 39) (bm 13 1855) (bm 13 1903) rfl rfl rfl rfl (aOq HT_.out (by kernel_rfl)) (by decide) (by decide) (fun K hK => ?_) (fun K hK => ?_)
             ·skip
              refine Kd.aBm (Kd.int .i64) (w0 := w) w.heap.size (by rfl) (.tmp 33) (.tmp 36) 99 3 (.int .i64 0) 8 rfl Tryz.underlying99 info3 rfl (by decide) (by omega) v218 a0B (l0.take (aC : Int).toNat) _ _ _ (fun _ => True) (fun _ => False) rfl rfl ?aO ?aR (fun _ _ h => h) (fun _ h => h.elim) ?aF ?aB ?aS ?aL ?_; (case aR => first | exact Eq.subst (motive := fun m_ => aCc _ _ _ _ m_ (l0.take (aC : Int).toNat)) (show (l0.take (aC : Int).toNat).length = aC.toNat from (by rw [List.length_take]; have h_ : (aC : Int) ≤ (l0.length : Int) := oa_; omega)) (Kd.aAp NB.out HB.out) | (rw [← show (l0.take (aC : Int).toNat).length = aC.toNat from (by rw [List.length_take]; have h_ : (aC : Int) ≤ (l0.length : Int) := oa_; omega)]; repeat (first | exact (Kd.aAp NB.out HB.out) | (with_reducible refine Kd.aCp ?_ _) | (with_reducible refine Kd.aCo ?_ _) | (with_reducible refine Kd.aDt ?_))) | (repeat (first | exact (Kd.aAp NB.out HB.out) | (with_reducible refine Kd.aCp ?_ _) | (with_reducible refine Kd.aCo ?_ _) | (with_reducible refine Kd.aDt ?_)))); (case aB => exact bb_); (case aF => exact (fun _ _ => trivial)); (case aO => exact (rk_ NF.out)); (case aS => exact (aAj bb_)); (case aL => have := bY1.out; have aJ9 := (show (l0.take (aC : Int).toNat).length = aC.toNat from (by rw [List.length_take]; have h_ : (aC : Int) ≤ (l0.length : Int) := oa_; omega)); omega); intro v222 w19 ho hb hg hat; rw [← b30.out] at ho; have IJ := am_ (ho); replace HB := am_ (hb); clear NF; clear ho hb hg hat; refine hK.out _ _ trivial (fun hHeld => ?_); clear hK K; refine nm_ ?_; refine aCm (i := 6) (N := some 39) (bm 13 1919) (h := fun K hK => ?_); (refine Kd.aCl (Kd.int .i64) _ 3 ?hg (N := 39) ?hd (xs := ([a1] : List Int)) (inner := [.int .i64 a1]) (ok := fun _ => True) (okp := fun _ => True) ?hr ?hp (fun _ hk => hk) trivial (Below.refl _ _) (Nat.le_refl _) (by simp) ?_; (case hd => rfl); (case hg => rfl); (case hr => first | (go_simp; done) | (go_simp; rfl)); (case hp => exact (aBt.one (show Kd.M (Kd.int .i64) _ _ _ a1 [.int .i64 a1] from rfl) (aBt.none _ _)))); intro a0N w20 aZK hb DZ j4; clear DZ j4; (first | rw [← a1C.out] at aZK | (simp only [Int.reduceToNat] at aZK; rw [← a1C.out] at aZK)); have pE := am_ (Kd.aBc (Kd.aDv aZK (Kd.aHf (rk_ IJ.out))) (aAj bb_)); replace IJ := am_ (Kd.aCi (rk_ IJ.out) (Kd.aCn aZK) hb); replace HB := bs_ hb; clear hb aZK; refine hK.out _ _ trivial (fun hHeld => ?_); clear hK K; refine nm_ ?_; exact aLq (by simp only [aFx, Act.put, List.setIfInBounds_toArray, List.set_cons_zero, List.set_cons_succ]) (hCont (v218, v222, a0N) _ ⟨(rk_ (Kd.aAw IJ.out (fun _ hk => hk.2))), (rk_ (Kd.aAw pE.out (fun _ hk => hk.2))), bb_⟩)
             ·skip
              (refine Kd.aCl (Kd.int .i64) _ 3 ?hg (N := 39) ?hd (xs := ([a1] : List Int)) (inner := [.int .i64 a1]) (ok := fun _ => True) (okp := fun _ => True) ?hr ?hp (fun _ hk => hk) trivial (Below.refl _ _) (Nat.le_refl _) (by simp) ?_; (case hd => rfl); (case hg => rfl); (case hr => first | (go_simp; done) | (go_simp; rfl)); (case hp => exact (aBt.one (show Kd.M (Kd.int .i64) _ _ _ a1 [.int .i64 a1] from rfl) (aBt.none _ _)))); intro a0N w19 TQ hb DZ j4; clear DZ j4; (first | rw [← a1C.out] at TQ | (simp only [Int.reduceToNat] at TQ; rw [← a1C.out] at TQ)); have pE := am_ (Kd.aBc (Kd.aDv TQ (Kd.aHf (rk_ NF.out))) (aAj bb_)); replace NF := am_ (Kd.aCi (rk_ NF.out) (Kd.aCn TQ) hb); replace HB := bs_ hb; clear hb TQ; refine hK.out _ _ trivial (fun hHeld => ?_); clear hK K; refine nm_ ?_; refine aCm (i := 4) (N := some 37) (bm 13 1919) (h := fun K hK => ?_); refine Kd.aBm (Kd.int .i64) (w0 := w) w.heap.size (by rfl) (.tmp 33) (.tmp 36) 99 3 (.int .i64 0) 8 rfl Tryz.underlying99 info3 rfl (by decide) (by omega) v218 a0B (l0.take (aC : Int).toNat) _ _ _ (fun k_ => some k_ ≠ (a0N : Value).ownBlock) (fun _ => False) rfl rfl ?aO ?aR (fun _ _ h => h) (fun _ h => h.elim) ?aF ?aB ?aS ?aL ?_; (case aR => first | exact Eq.subst (motive := fun m_ => aCc _ _ _ _ m_ (l0.take (aC : Int).toNat)) (show (l0.take (aC : Int).toNat).length = aC.toNat from (by rw [List.length_take]; have h_ : (aC : Int) ≤ (l0.length : Int) := oa_; omega)) (Kd.aAp NB.out HB.out) | (rw [← show (l0.take (aC : Int).toNat).length = aC.toNat from (by rw [List.length_take]; have h_ : (aC : Int) ≤ (l0.length : Int) := oa_; omega)]; repeat (first | exact (Kd.aAp NB.out HB.out) | (with_reducible refine Kd.aCp ?_ _) | (with_reducible refine Kd.aCo ?_ _) | (with_reducible refine Kd.aDt ?_))) | (repeat (first | exact (Kd.aAp NB.out HB.out) | (with_reducible refine Kd.aCp ?_ _) | (with_reducible refine Kd.aCo ?_ _) | (with_reducible refine Kd.aDt ?_)))); (case aB => exact bb_); (case aF => exact (fun k_ hk => Kd.fresh' (Kd.aHf (rk_ pE.out)) k_ hk)); (case aO => exact (rk_ (Kd.aAw NF.out (fun _ hk => hk.2)))); (case aS => exact (aAj bb_)); (case aL => have := bY1.out; have aJ9 := (show (l0.take (aC : Int).toNat).length = aC.toNat from (by rw [List.length_take]; have h_ : (aC : Int) ≤ (l0.length : Int) := oa_; omega)); omega); intro v222 w21 ho hb hg hat; rw [← b30.out] at ho; have IJ := am_ (ho); replace pE := am_ (Kd.aFw (ok := (fun _ => True)) (rk_ pE.out) hg hat); replace HB := am_ (hb); clear NF; clear ho hb hg hat; refine hK.out _ _ trivial (fun hHeld => ?_); clear hK K; refine nm_ ?_; exact aLq (by simp only [aFx, Act.put, List.setIfInBounds_toArray, List.set_cons_zero, List.set_cons_succ]) (hCont (v218, v222, a0N) _ ⟨(rk_ IJ.out), (rk_ (Kd.aAw pE.out (fun _ hk => hk.2))), bb_⟩)
            ·skip
             (refine Kd.aCl (Kd.int .i64) _ 3 ?hg (N := 39) ?hd (xs := ([a1] : List Int)) (inner := [.int .i64 a1]) (ok := fun _ => True) (okp := fun _ => True) ?hr ?hp (fun _ hk => hk) trivial (Below.refl _ _) (Nat.le_refl _) (by simp) ?_; (case hd => rfl); (case hg => rfl); (case hr => first | (go_simp; done) | (go_simp; rfl)); (case hp => exact (aBt.one (show Kd.M (Kd.int .i64) _ _ _ a1 [.int .i64 a1] from rfl) (aBt.none _ _)))); intro a0N w17 Z7 hb DZ j4; clear DZ j4; (first | rw [← a1C.out] at Z7 | (simp only [Int.reduceToNat] at Z7; rw [← a1C.out] at Z7)); have pE := am_ (Kd.aBc Z7 (aAj bb_)); replace HB := bs_ hb; clear hb Z7; refine hK.out _ _ trivial (fun hHeld => ?_); clear hK K; refine nm_ ?_; refine aCm (i := 0) (N := some 33) (bm 13 1903) (h := fun K hK => ?_); (refine Kd.aCl (Kd.int .i64) _ 3 ?hg (N := 33) ?hd (xs := ([] : List Int)) (inner := []) (ok := fun _ => True) (okp := fun _ => True) ?hr ?hp (fun _ hk => hk) trivial (Below.refl _ _) (Nat.le_refl _) (by simp) ?_; (case hd => rfl); (case hg => rfl); (case hr => first | (go_simp; done) | (go_simp; rfl)); (case hp => exact (aBt.none _ _))); intro v218 w19 TQ hb DZ j4; clear DZ j4; (first | rw [← aY2.out] at TQ | (simp only [Int.reduceToNat] at TQ; rw [← aY2.out] at TQ)); have NF := am_ (Kd.aBc (Kd.aDv TQ (Kd.aHf (rk_ pE.out))) (aAj bb_)); replace pE := am_ (Kd.aCi (rk_ pE.out) (Kd.aCn TQ) hb); replace HB := bs_ hb; clear hb TQ; refine hK.out _ _ trivial (fun hHeld => ?_); clear hK K; refine nm_ ?_; refine aCm (i := 4) (N := some 37) (bm 13 1919) (h := fun K hK => ?_); refine Kd.aBm (Kd.int .i64) (w0 := w) w.heap.size (by rfl) (.tmp 33) (.tmp 36) 99 3 (.int .i64 0) 8 rfl Tryz.underlying99 info3 rfl (by decide) (by omega) v218 a0B (l0.take (aC : Int).toNat) _ _ _ (fun k_ => some k_ ≠ (a0N : Value).ownBlock) (fun _ => False) rfl rfl ?aO ?aR (fun _ _ h => h) (fun _ h => h.elim) ?aF ?aB ?aS ?aL ?_; (case aR => first | exact Eq.subst (motive := fun m_ => aCc _ _ _ _ m_ (l0.take (aC : Int).toNat)) (show (l0.take (aC : Int).toNat).length = aC.toNat from (by rw [List.length_take]; have h_ : (aC : Int) ≤ (l0.length : Int) := oa_; omega)) (Kd.aAp NB.out HB.out) | (rw [← show (l0.take (aC : Int).toNat).length = aC.toNat from (by rw [List.length_take]; have h_ : (aC : Int) ≤ (l0.length : Int) := oa_; omega)]; repeat (first | exact (Kd.aAp NB.out HB.out) | (with_reducible refine Kd.aCp ?_ _) | (with_reducible refine Kd.aCo ?_ _) | (with_reducible refine Kd.aDt ?_))) | (repeat (first | exact (Kd.aAp NB.out HB.out) | (with_reducible refine Kd.aCp ?_ _) | (with_reducible refine Kd.aCo ?_ _) | (with_reducible refine Kd.aDt ?_)))); (case aB => exact bb_); (case aF => exact (fun k_ hk => Kd.fresh' (Kd.aHf (rk_ pE.out)) k_ hk)); (case aO => exact (rk_ (Kd.aAw NF.out (fun _ hk => hk.2)))); (case aS => exact (aAj bb_)); (case aL => have := bY1.out; have aJ9 := (show (l0.take (aC : Int).toNat).length = aC.toNat from (by rw [List.length_take]; have h_ : (aC : Int) ≤ (l0.length : Int) := oa_; omega)); omega); intro v222 w21 ho hb hg hat; rw [← b30.out] at ho; have IJ := am_ (ho); replace pE := am_ (Kd.aFw (ok := (fun _ => True)) (rk_ pE.out) hg hat); replace HB := am_ (hb); clear NF; clear ho hb hg hat; refine hK.out _ _ trivial (fun hHeld => ?_); clear hK K; refine nm_ ?_; exact aLq (by simp only [aFx, Act.put, List.setIfInBounds_toArray, List.set_cons_zero, List.set_cons_succ]) (hCont (v218, v222, a0N) _ ⟨(rk_ IJ.out), (rk_ (Kd.aAw pE.out (fun _ hk => hk.2))), bb_⟩)
           rintro ⟨v218, v222, a0N⟩ w22 ⟨h0_, h1_, h2_⟩; have n0_ : Aside0 (Kd.R (Kd.int .i64) 3 w22 w.heap.size (fun k_ => some k_ ≠ (a0N : Value).ownBlock) v222 NN) := ⟨h0_⟩; have n1_ : Aside0 (Kd.R (Kd.int .i64) 3 w22 w.heap.size (fun k_ => some k_ ≠ (v222 : Value).ownBlock) a0N I4) := ⟨h1_⟩; have pO : Aside0 (Below w.heap.size w w22) := ⟨h2_⟩; clear HB; clear h0_ h1_ h2_; have IJ := n0_; have pE := n1_; have HB := pO; clear n0_ n1_ pO; have hHeld := trivial; obtain ⟨cKZ, cCV, cI1⟩ := Kd.aBj pE.out; (first | subst cI1 | (injection cI1 with f1_ f2_ f3_; have f4_ := f1_.symm; have f5_ := f3_.symm; clear f1_ f2_ f3_; subst f4_; subst f5_)); refine aLq (a' := ?_) ?_ ?_; rotate_left
           ·simp only [aFx, Act.put, List.setIfInBounds_toArray, List.set_cons_zero, List.set_cons_succ]
            rfl
           refine aCm (i := 7) (N := some 40) (tf 11 2) (h := fun K hK => ?_); refine Kd.aBm (Kd.int .i64) (w0 := w) w.heap.size (by rfl) (.tmp 37) (.tmp 39) 99 3 (.int .i64 0) 8 rfl Tryz.underlying99 info3 rfl (by decide) (by omega) v222 NN I4 _ _ _ (fun k_ => some k_ ≠ (.slice cKZ I4.length cCV : Value).ownBlock) (fun _ => False) rfl rfl ?aO ?aR (fun _ _ h => h) (fun _ h => h.elim) ?aF ?aB ?aS ?aL ?_; (case aR => repeat (first | exact (Kd.aAr pE.out).2.2 | (with_reducible refine Kd.aCp ?_ _) | (with_reducible refine Kd.aCo ?_ _) | (with_reducible refine Kd.aDt ?_))); (case aB => exact bb_); (case aF => exact (fun k_ hk => Kd.fresh' (Kd.aHf (rk_ pE.out)) k_ hk)); (case aO => exact (rk_ IJ.out)); (case aS => exact (aAj bb_)); (case aL => have := cD3.out; omega); intro v228 w23 ho hb hg hat; rw [← cEL.out] at ho; have bR6 := am_ (ho); replace pE := am_ (Kd.aFw (ok := (fun _ => True)) (rk_ (Kd.aAw pE.out (fun _ hk => ⟨trivial, hk⟩))) hg hat); replace HB := am_ (hb); clear IJ; clear ho hb hg hat; refine hK.out _ _ trivial (fun hHeld => ?_); clear hK K; refine nm_ ?_; refine aCm (i := 11) (N := some 44) (tf 12 1) (h := fun K hK => ?_); refine Kd.aBm (Kd.int .i64) (w0 := w) w.heap.size (by rfl) (.tmp 40) (.tmp 43) 99 3 (.int .i64 0) 8 rfl Tryz.underlying99 info3 rfl (by decide) (by omega) v228 IU (l0.drop (aC : Int).toNat) _ _ _ (fun k_ => some k_ ≠ (.slice cKZ I4.length cCV : Value).ownBlock) (fun _ => False) rfl rfl ?aO ?aR (fun _ _ h => h) (fun _ h => h.elim) ?aF ?aB ?aS ?aL ?_; (case aR => first | (rw [← show (l0.drop (aC : Int).toNat).length = (l0.length - aC.toNat) from List.length_drop]; repeat (first | exact (Kd.aAp b7J.out HB.out) | (with_reducible refine Kd.aCp ?_ _) | (with_reducible refine Kd.aCo ?_ _) | (with_reducible refine Kd.aDt ?_))) | (repeat (first | exact (Kd.aAp b7J.out HB.out) | (with_reducible refine Kd.aCp ?_ _) | (with_reducible refine Kd.aCo ?_ _) | (with_reducible refine Kd.aDt ?_)))); (case aB => exact bb_); (case aF => exact (fun k_ hk => Kd.fresh' (Kd.aHf (rk_ pE.out)) k_ hk)); (case aO => exact (rk_ bR6.out)); (case aS => exact (aAj bb_)); (case aL => have := cKJ.out; have aJ9 := (show (l0.drop (aC : Int).toNat).length = (l0.length - aC.toNat) from List.length_drop); omega); intro v232 w25 ho hb hg hat; rw [← cI2.out] at ho; have cJQ := am_ (ho); replace pE := am_ (Kd.aFw (ok := (fun _ => True)) (rk_ pE.out) hg hat); replace HB := am_ (hb); clear bR6; clear ho hb hg hat; refine hK.out _ _ trivial (fun hHeld => ?_); clear hK K; refine nm_ ?_; refine aBa 12 (tf 13 0) ?_; refine dn_ ?_
           try go_wp2
           go_ret
           (exact ⟨_, rr_, Kd.aBc (r3_ (Kd.aAw cJQ.out (fun _ hk => trivial))) HB_.out, bS0⟩)
          ·rw [if_neg c13] at H
           exact nn_ H
         ·rw [if_neg c10] at H
          exact nn_ H
        ·rw [if_neg c9] at H
         exact nn_ H
       ·rw [if_neg c8] at H
        exact nn_ H
    ·rw [if_neg c4] at H
     exact nn_ H
   ·rw [if_neg c3] at H
    have fC := decide_eq_false c3; clear c3; obtain ⟨a0O, aIN⟩ : ∃ y_ : List Int, y_ = (([] : List Int)) := ⟨_, rfl⟩; (replace H : (if 0 ≤ aC then (if aC ≤ (l0.length : Int) then (if a0O.length + (l0.take (aC : Int).toNat).length < 17592186044416 then ((some (a0O ++ (l0.take (aC : Int).toNat) : List Int)).bind fun NP => ((some (([a1] : List Int) : List Int)).bind fun I1 => (if NP.length + I1.length < 17592186044416 then ((some (NP ++ I1 : List Int)).bind fun KD => (if KD.length + (l0.drop (aC : Int).toNat).length < 17592186044416 then (some (KD ++ (l0.drop (aC : Int).toNat))) else (none))) else (none)))) else (none)) else (none)) else (none)) = some r := by first | (rw [aIN]; with_reducible exact H) | (have jC := (Option.bind_some _ _).symm.trans H; rw [aIN]; with_reducible exact jC) | (have jC := (Option.bind_some _ _).symm.trans H; with_reducible exact jC) | with_reducible exact H | (rw [aIN]; exact H) | exact H); have aXX := am_ aIN; clear aIN
    by_cases c26 : 0 ≤ aC
    ·rw [if_pos c26] at H
     have bQE := eq_true c26; have dB0 := decide_eq_true c26; clear c26
     by_cases fV : aC ≤ (l0.length : Int)
     ·rw [if_pos fV] at H
      have bAP := eq_true fV; have c4D := decide_eq_true fV; clear fV
      by_cases c28 : a0O.length + (l0.take (aC : Int).toNat).length < 17592186044416
      ·rw [if_pos c28] at H
       have b2E := am_ c28; clear c28; obtain ⟨NP, aDE⟩ : ∃ y_ : List Int, y_ = (a0O ++ (l0.take (aC : Int).toNat)) := ⟨_, rfl⟩; (replace H : ((some (([a1] : List Int) : List Int)).bind fun I1 => (if NP.length + I1.length < 17592186044416 then ((some (NP ++ I1 : List Int)).bind fun KD => (if KD.length + (l0.drop (aC : Int).toNat).length < 17592186044416 then (some (KD ++ (l0.drop (aC : Int).toNat))) else (none))) else (none))) = some r := by first | (rw [aDE]; with_reducible exact H) | (have jC := (Option.bind_some _ _).symm.trans H; rw [aDE]; with_reducible exact jC) | (have jC := (Option.bind_some _ _).symm.trans H; with_reducible exact jC) | with_reducible exact H | (rw [aDE]; exact H) | exact H); have bA2 := am_ aDE; clear aDE; obtain ⟨I1, aI4⟩ : ∃ y_ : List Int, y_ = (([a1] : List Int)) := ⟨_, rfl⟩; (replace H : (if NP.length + I1.length < 17592186044416 then ((some (NP ++ I1 : List Int)).bind fun KD => (if KD.length + (l0.drop (aC : Int).toNat).length < 17592186044416 then (some (KD ++ (l0.drop (aC : Int).toNat))) else (none))) else (none)) = some r := by first | (rw [aI4]; with_reducible exact H) | (have jC := (Option.bind_some _ _).symm.trans H; rw [aI4]; with_reducible exact jC) | (have jC := (Option.bind_some _ _).symm.trans H; with_reducible exact jC) | with_reducible exact H | (rw [aI4]; exact H) | exact H); have a1G := am_ aI4; clear aI4
       by_cases c29 : NP.length + I1.length < 17592186044416
       ·rw [if_pos c29] at H
        have cEA := am_ c29; clear c29; obtain ⟨KD, aF0⟩ : ∃ y_ : List Int, y_ = (NP ++ I1) := ⟨_, rfl⟩; (replace H : (if KD.length + (l0.drop (aC : Int).toNat).length < 17592186044416 then (some (KD ++ (l0.drop (aC : Int).toNat))) else (none)) = some r := by first | (rw [aF0]; with_reducible exact H) | (have jC := (Option.bind_some _ _).symm.trans H; rw [aF0]; with_reducible exact jC) | (have jC := (Option.bind_some _ _).symm.trans H; with_reducible exact jC) | with_reducible exact H | (rw [aF0]; exact H) | exact H); have cBM := am_ aF0; clear aF0; (have dAP := eq_true (oa_ : 0 ≤ aC)); (have aMK := eq_true (oa_ : aC ≤ (l0.length : Int)))
        by_cases c32 : KD.length + (l0.drop (aC : Int).toNat).length < 17592186044416
        ·rw [if_pos c32] at H
         have cLZ := am_ c32; clear c32; obtain ⟨d6G, aF9⟩ : ∃ y_ : List Int, y_ = (KD ++ (l0.drop (aC : Int).toNat)) := ⟨_, rfl⟩; (replace H : (some d6G) = some r := by first | (rw [aF9]; with_reducible exact H) | (have jC := (Option.bind_some _ _).symm.trans H; rw [aF9]; with_reducible exact jC) | (have jC := (Option.bind_some _ _).symm.trans H; with_reducible exact jC) | with_reducible exact H | (rw [aF9]; exact H) | exact H); have c6Z := am_ aF9; clear aF9; obtain rfl := Option.some.inj H
         try go_wp2
         replace HB := am_ (aAm HB.out); obtain ⟨dCH, bOW, _, bPK, _⟩ := info_parts info3; (obtain ⟨d3G, cH8, c8M⟩ := aGz (P := Tryz.prog) (Value.int .i64) 0 99 3 .i64 Tryz.underlying99 bOW bPK A0 c0 l0 aC (oa_) (oa_) oQ.out); (have NH := am_ (Kd.aGh (h1 := fun _ => rfl) (cH8 _ (Kd.aEk jY.out)))); have dBN := am_ c8M; clear cH8 c8M bOW bPK; obtain ⟨dBY, bQC, _, bPH, _⟩ := info_parts info3; (obtain ⟨A35, d4P, cDF, c3Q⟩ := aHb (P := Tryz.prog) (Value.int .i64) 0 99 3 .i64 Tryz.underlying99 bQC bPH A0 c0 l0 aC (oa_) (oa_) oQ.out); (have b7X := am_ (Kd.aGh (h1 := fun _ => rfl) (cDF _ (Kd.aEk jY.out)))); have dA2 := am_ c3Q; clear cDF c3Q bQC bPH; (refine aOt (n := 13) (S := fun w' => True) (ds := []) (tf 0 13) (by kernel_rfl) rfl rfl trivial (fun hHeld => ?_); refine aAv dL.BF dL.pY (fun HT_ HW_ => ?_)); generalize wr.drew = w33 at HB NH b7X hHeld ⊢; refine aBa 1 (bm 13 2) ?_; refine aBa 2 (bm 13 6) ?_; refine aBa 3 (bm 13 14) ?_; refine aBa 5 (bm 13 46) ?_; refine aBa 8 (bm 13 302) ?_; refine aBa 9 (bm 13 814) ?_; refine aBa 10 (bm 13 1838) ?_; refine aXr (σ := Value × Value × Value) 3 (bm 13 1919) (fun s_ => [(33, s_.1), (37, s_.2.1), (39, s_.2.2)]) (fun s_ w' => (Kd.R (Kd.int .i64) 3 w' w.heap.size (fun k_ => some k_ ≠ (s_.2.2 : Value).ownBlock) s_.2.1 NP) ∧ (Kd.R (Kd.int .i64) 3 w' w.heap.size (fun k_ => some k_ ≠ (s_.2.1 : Value).ownBlock) s_.2.2 I1) ∧ (Below w.heap.size w w')) ?_ ?_; rotate_left
         ·intro hCont
          refine aXv (i := 0) (j := 6) (Ni := some 33) (Nj := some 39) (bm 13 1839) (bm 13 1902) rfl rfl rfl rfl (aOq HT_.out (by kernel_rfl)) (by decide) (by decide) (fun K hK => ?_) (fun K hK => ?_)
          ·skip
           (refine Kd.aCl (Kd.int .i64) _ 3 ?hg (N := 33) ?hd (xs := ([] : List Int)) (inner := []) (ok := fun _ => True) (okp := fun _ => True) ?hr ?hp (fun _ hk => hk) trivial (Below.refl _ _) (Nat.le_refl _) (by simp) ?_; (case hd => rfl); (case hg => rfl); (case hr => first | (go_simp; done) | (go_simp; rfl)); (case hp => exact (aBt.none _ _))); intro aFU w36 Z9 hb DZ j4; clear DZ j4; (first | rw [← aXX.out] at Z9 | (simp only [Int.reduceToNat] at Z9; rw [← aXX.out] at Z9)); have NI := am_ (Kd.aBc Z9 (aAj bb_)); replace HB := bs_ hb; clear hb Z9; refine hK.out _ _ trivial (fun hHeld => ?_); clear hK K; refine nm_ ?_; refine aXv (i := 4) (j := 6) (Ni := some 37) (Nj := some 39) (bm 13 1855) (bm 13 1903) rfl rfl rfl rfl (aOq HT_.out (by kernel_rfl)) (by decide) (by decide) (fun K hK => ?_) (fun K hK => ?_)
           ·skip
            refine Kd.aBm (Kd.int .i64) (w0 := w) w.heap.size (by rfl) (.tmp 33) (.tmp 36) 99 3 (.int .i64 0) 8 rfl Tryz.underlying99 info3 rfl (by decide) (by omega) aFU a0O (l0.take (aC : Int).toNat) _ _ _ (fun _ => True) (fun _ => False) rfl rfl ?aO ?aR (fun _ _ h => h) (fun _ h => h.elim) ?aF ?aB ?aS ?aL ?_; (case aR => first | exact Eq.subst (motive := fun m_ => aCc _ _ _ _ m_ (l0.take (aC : Int).toNat)) (show (l0.take (aC : Int).toNat).length = aC.toNat from (by rw [List.length_take]; have h_ : (aC : Int) ≤ (l0.length : Int) := oa_; omega)) (Kd.aAp NH.out HB.out) | (rw [← show (l0.take (aC : Int).toNat).length = aC.toNat from (by rw [List.length_take]; have h_ : (aC : Int) ≤ (l0.length : Int) := oa_; omega)]; repeat (first | exact (Kd.aAp NH.out HB.out) | (with_reducible refine Kd.aCp ?_ _) | (with_reducible refine Kd.aCo ?_ _) | (with_reducible refine Kd.aDt ?_))) | (repeat (first | exact (Kd.aAp NH.out HB.out) | (with_reducible refine Kd.aCp ?_ _) | (with_reducible refine Kd.aCo ?_ _) | (with_reducible refine Kd.aDt ?_)))); (case aB => exact bb_); (case aF => exact (fun _ _ => trivial)); (case aO => exact (rk_ NI.out)); (case aS => exact (aAj bb_)); (case aL => have := b2E.out; have aJ9 := (show (l0.take (aC : Int).toNat).length = aC.toNat from (by rw [List.length_take]; have h_ : (aC : Int) ≤ (l0.length : Int) := oa_; omega)); omega); intro a98 w38 ho hb hg hat; rw [← bA2.out] at ho; have IV := am_ (ho); replace HB := am_ (hb); clear NI; clear ho hb hg hat; refine hK.out _ _ trivial (fun hHeld => ?_); clear hK K; refine nm_ ?_; refine aCm (i := 6) (N := some 39) (bm 13 1919) (h := fun K hK => ?_); (refine Kd.aCl (Kd.int .i64) _ 3 ?hg (N := 39) ?hd (xs := ([a1] : List Int)) (inner := [.int .i64 a1]) (ok := fun _ => True) (okp := fun _ => True) ?hr ?hp (fun _ hk => hk) trivial (Below.refl _ _) (Nat.le_refl _) (by simp) ?_; (case hd => rfl); (case hg => rfl); (case hr => first | (go_simp; done) | (go_simp; rfl)); (case hp => exact (aBt.one (show Kd.M (Kd.int .i64) _ _ _ a1 [.int .i64 a1] from rfl) (aBt.none _ _)))); intro a0D w39 aZJ hb DZ j4; clear DZ j4; (first | rw [← a1G.out] at aZJ | (simp only [Int.reduceToNat] at aZJ; rw [← a1G.out] at aZJ)); have pF := am_ (Kd.aBc (Kd.aDv aZJ (Kd.aHf (rk_ IV.out))) (aAj bb_)); replace IV := am_ (Kd.aCi (rk_ IV.out) (Kd.aCn aZJ) hb); replace HB := bs_ hb; clear hb aZJ; refine hK.out _ _ trivial (fun hHeld => ?_); clear hK K; refine nm_ ?_; exact aLq (by simp only [aFx, Act.put, List.setIfInBounds_toArray, List.set_cons_zero, List.set_cons_succ]) (hCont (aFU, a98, a0D) _ ⟨(rk_ (Kd.aAw IV.out (fun _ hk => hk.2))), (rk_ (Kd.aAw pF.out (fun _ hk => hk.2))), bb_⟩)
           ·skip
            (refine Kd.aCl (Kd.int .i64) _ 3 ?hg (N := 39) ?hd (xs := ([a1] : List Int)) (inner := [.int .i64 a1]) (ok := fun _ => True) (okp := fun _ => True) ?hr ?hp (fun _ hk => hk) trivial (Below.refl _ _) (Nat.le_refl _) (by simp) ?_; (case hd => rfl); (case hg => rfl); (case hr => first | (go_simp; done) | (go_simp; rfl)); (case hp => exact (aBt.one (show Kd.M (Kd.int .i64) _ _ _ a1 [.int .i64 a1] from rfl) (aBt.none _ _)))); intro a0D w38 TN hb DZ j4; clear DZ j4; (first | rw [← a1G.out] at TN | (simp only [Int.reduceToNat] at TN; rw [← a1G.out] at TN)); have pF := am_ (Kd.aBc (Kd.aDv TN (Kd.aHf (rk_ NI.out))) (aAj bb_)); replace NI := am_ (Kd.aCi (rk_ NI.out) (Kd.aCn TN) hb); replace HB := bs_ hb; clear hb TN; refine hK.out _ _ trivial (fun hHeld => ?_); clear hK K; refine nm_ ?_; refine aCm (i := 4) (N := some 37) (bm 13 1919) (h := fun K hK => ?_); refine Kd.aBm (Kd.int .i64) (w0 := w) w.heap.size (by rfl) (.tmp 33) (.tmp 36) 99 3 (.int .i64 0) 8 rfl Tryz.underlying99 info3 rfl (by decide) (by omega) aFU a0O (l0.take (aC : Int).toNat) _ _ _ (fun k_ => some k_ ≠ (a0D : Value).ownBlock) (fun _ => False) rfl rfl ?aO ?aR (fun _ _ h => h) (fun _ h => h.elim) ?aF ?aB ?aS ?aL ?_; (case aR => first | exact Eq.subst (motive := fun m_ => aCc _ _ _ _ m_ (l0.take (aC : Int).toNat)) (show (l0.take (aC : Int).toNat).length = aC.toNat from (by rw [List.length_take]; have h_ : (aC : Int) ≤ (l0.length : Int) := oa_; omega)) (Kd.aAp NH.out HB.out) | (rw [← show (l0.take (aC : Int).toNat).length = aC.toNat from (by rw [List.length_take]; have h_ : (aC : Int) ≤ (l0.length : Int) := oa_; omega)]; repeat (first | exact (Kd.aAp NH.out HB.out) | (with_reducible refine Kd.aCp ?_ _) | (with_reducible refine Kd.aCo ?_ _) | (with_reducible refine Kd.aDt ?_))) | (repeat (first | exact (Kd.aAp NH.out HB.out) | (with_reducible refine Kd.aCp ?_ _) | (with_reducible refine Kd.aCo ?_ _) | (with_reducible refine Kd.aDt ?_)))); (case aB => exact bb_); (case aF => exact (fun k_ hk => Kd.fresh' (Kd.aHf (rk_ pF.out)) k_ hk)); (case aO => exact (rk_ (Kd.aAw NI.out (fun _ hk => hk.2)))); (case aS => exact (aAj bb_)); (case aL => have := b2E.out; have aJ9 := (show (l0.take (aC : Int).toNat).length = aC.toNat from (by rw [List.length_take]; have h_ : (aC : Int) ≤ (l0.length : Int) := oa_; omega)); omega); intro a98 w40 ho hb hg hat; rw [← bA2.out] at ho; have IV := am_ (ho); replace pF := am_ (Kd.aFw (ok := (fun _ => True)) (rk_ pF.out) hg hat); replace HB := am_ (hb); clear NI; clear ho hb hg hat; refine hK.out _ _ trivial (fun hHeld => ?_); clear hK K; refine nm_ ?_; exact aLq (by simp only [aFx, Act.put, List.setIfInBounds_toArray, List.set_cons_zero, List.set_cons_succ]) (hCont (aFU, a98, a0D) _ ⟨(rk_ IV.out), (rk_ (Kd.aAw pF.out (fun _ hk => hk.2))), bb_⟩)
          ·skip
           (refine Kd.aCl (Kd.int .i64) _ 3 ?hg (N := 39) ?hd (xs := ([a1] : List Int)) (inner := [.int .i64 a1]) (ok := fun _ => True) (okp := fun _ => True) ?hr ?hp (fun _ hk => hk) trivial (Below.refl _ _) (Nat.le_refl _) (by simp) ?_; (case hd => rfl); (case hg => rfl); (case hr => first | (go_simp; done) | (go_simp; rfl)); (case hp => exact (aBt.one (show Kd.M (Kd.int .i64) _ _ _ a1 [.int .i64 a1] from rfl) (aBt.none _ _)))); intro a0D w36 Z9 hb DZ j4; clear DZ j4; (first | rw [← a1G.out] at Z9 | (simp only [Int.reduceToNat] at Z9; rw [← a1G.out] at Z9)); have pF := am_ (Kd.aBc Z9 (aAj bb_)); replace HB := bs_ hb; clear hb Z9; refine hK.out _ _ trivial (fun hHeld => ?_); clear hK K; refine nm_ ?_; refine aCm (i := 0) (N := some 33) (bm 13 1903) (h := fun K hK => ?_); (refine Kd.aCl (Kd.int .i64) _ 3 ?hg (N := 33) ?hd (xs := ([] : List Int)) (inner := []) (ok := fun _ => True) (okp := fun _ => True) ?hr ?hp (fun _ hk => hk) trivial (Below.refl _ _) (Nat.le_refl _) (by simp) ?_; (case hd => rfl); (case hg => rfl); (case hr => first | (go_simp; done) | (go_simp; rfl)); (case hp => exact (aBt.none _ _))); intro aFU w38 TN hb DZ j4; clear DZ j4; (first | rw [← aXX.out] at TN | (simp only [Int.reduceToNat] at TN; rw [← aXX.out] at TN)); have NI := am_ (Kd.aBc (Kd.aDv TN (Kd.aHf (rk_ pF.out))) (aAj bb_)); replace pF := am_ (Kd.aCi (rk_ pF.out) (Kd.aCn TN) hb); replace HB := bs_ hb; clear hb TN; refine hK.out _ _ trivial (fun hHeld => ?_); clear hK K; refine nm_ ?_; refine aCm (i := 4) (N := some 37) (bm 13 1919) (h := fun K hK => ?_); refine Kd.aBm (Kd.int .i64) (w0 := w) w.heap.size (by rfl) (.tmp 33) (.tmp 36) 99 3 (.int .i64 0) 8 rfl Tryz.underlying99 info3 rfl (by decide) (by omega) aFU a0O (l0.take (aC : Int).toNat) _ _ _ (fun k_ => some k_ ≠ (a0D : Value).ownBlock) (fun _ => False) rfl rfl ?aO ?aR (fun _ _ h => h) (fun _ h => h.elim) ?aF ?aB ?aS ?aL ?_; (case aR => first | exact Eq.subst (motive := fun m_ => aCc _ _ _ _ m_ (l0.take (aC : Int).toNat)) (show (l0.take (aC : Int).toNat).length = aC.toNat from (by rw [List.length_take]; have h_ : (aC : Int) ≤ (l0.length : Int) := oa_; omega)) (Kd.aAp NH.out HB.out) | (rw [← show (l0.take (aC : Int).toNat).length = aC.toNat from (by rw [List.length_take]; have h_ : (aC : Int) ≤ (l0.length : Int) := oa_; omega)]; repeat (first | exact (Kd.aAp NH.out HB.out) | (with_reducible refine Kd.aCp ?_ _) | (with_reducible refine Kd.aCo ?_ _) | (with_reducible refine Kd.aDt ?_))) | (repeat (first | exact (Kd.aAp NH.out HB.out) | (with_reducible refine Kd.aCp ?_ _) | (with_reducible refine Kd.aCo ?_ _) | (with_reducible refine Kd.aDt ?_)))); (case aB => exact bb_); (case aF => exact (fun k_ hk => Kd.fresh' (Kd.aHf (rk_ pF.out)) k_ hk)); (case aO => exact (rk_ (Kd.aAw NI.out (fun _ hk => hk.2)))); (case aS => exact (aAj bb_)); (case aL => have := b2E.out; have aJ9 := (show (l0.take (aC : Int).toNat).length = aC.toNat from (by rw [List.length_take]; have h_ : (aC : Int) ≤ (l0.length : Int) := oa_; omega)); omega); intro a98 w40 ho hb hg hat; rw [← bA2.out] at ho; have IV := am_ (ho); replace pF := am_ (Kd.aFw (ok := (fun _ => True)) (rk_ pF.out) hg hat); replace HB := am_ (hb); clear NI; clear ho hb hg hat; refine hK.out _ _ trivial (fun hHeld => ?_); clear hK K; refine nm_ ?_; exact aLq (by simp only [aFx, Act.put, List.setIfInBounds_toArray, List.set_cons_zero, List.set_cons_succ]) (hCont (aFU, a98, a0D) _ ⟨(rk_ IV.out), (rk_ (Kd.aAw pF.out (fun _ hk => hk.2))), bb_⟩)
         rintro ⟨aFU, a98, a0D⟩ w41 ⟨h0_, h1_, h2_⟩; have n0_ : Aside0 (Kd.R (Kd.int .i64) 3 w41 w.heap.size (fun k_ => some k_ ≠ (a0D : Value).ownBlock) a98 NP) := ⟨h0_⟩; have n1_ : Aside0 (Kd.R (Kd.int .i64) 3 w41 w.heap.size (fun k_ => some k_ ≠ (a98 : Value).ownBlock) a0D I1) := ⟨h1_⟩; have pO : Aside0 (Below w.heap.size w w41) := ⟨h2_⟩; clear HB; clear h0_ h1_ h2_; have IV := n0_; have pF := n1_; have HB := pO; clear n0_ n1_ pO; have hHeld := trivial; obtain ⟨c8V, cL4, cM7⟩ := Kd.aBj pF.out; (first | subst cM7 | (injection cM7 with f1_ f2_ f3_; have f4_ := f1_.symm; have f5_ := f3_.symm; clear f1_ f2_ f3_; subst f4_; subst f5_)); refine aLq (a' := ?_) ?_ ?_; rotate_left
         ·simp only [aFx, Act.put, List.setIfInBounds_toArray, List.set_cons_zero, List.set_cons_succ]
          rfl
         refine aCm (i := 7) (N := some 40) (tf 11 2) (h := fun K hK => ?_); refine Kd.aBm (Kd.int .i64) (w0 := w) w.heap.size (by rfl) (.tmp 37) (.tmp 39) 99 3 (.int .i64 0) 8 rfl Tryz.underlying99 info3 rfl (by decide) (by omega) a98 NP I1 _ _ _ (fun k_ => some k_ ≠ (.slice c8V I1.length cL4 : Value).ownBlock) (fun _ => False) rfl rfl ?aO ?aR (fun _ _ h => h) (fun _ h => h.elim) ?aF ?aB ?aS ?aL ?_; (case aR => repeat (first | exact (Kd.aAr pF.out).2.2 | (with_reducible refine Kd.aCp ?_ _) | (with_reducible refine Kd.aCo ?_ _) | (with_reducible refine Kd.aDt ?_))); (case aB => exact bb_); (case aF => exact (fun k_ hk => Kd.fresh' (Kd.aHf (rk_ pF.out)) k_ hk)); (case aO => exact (rk_ IV.out)); (case aS => exact (aAj bb_)); (case aL => have := cEA.out; omega); intro d7D w42 ho hb hg hat; rw [← cBM.out] at ho; have bPW := am_ (ho); replace pF := am_ (Kd.aFw (ok := (fun _ => True)) (rk_ (Kd.aAw pF.out (fun _ hk => ⟨trivial, hk⟩))) hg hat); replace HB := am_ (hb); clear IV; clear ho hb hg hat; refine hK.out _ _ trivial (fun hHeld => ?_); clear hK K; refine nm_ ?_; refine aCm (i := 11) (N := some 44) (tf 12 1) (h := fun K hK => ?_); refine Kd.aBm (Kd.int .i64) (w0 := w) w.heap.size (by rfl) (.tmp 40) (.tmp 43) 99 3 (.int .i64 0) 8 rfl Tryz.underlying99 info3 rfl (by decide) (by omega) d7D KD (l0.drop (aC : Int).toNat) _ _ _ (fun k_ => some k_ ≠ (.slice c8V I1.length cL4 : Value).ownBlock) (fun _ => False) rfl rfl ?aO ?aR (fun _ _ h => h) (fun _ h => h.elim) ?aF ?aB ?aS ?aL ?_; (case aR => first | (rw [← show (l0.drop (aC : Int).toNat).length = (l0.length - aC.toNat) from List.length_drop]; repeat (first | exact (Kd.aAp b7X.out HB.out) | (with_reducible refine Kd.aCp ?_ _) | (with_reducible refine Kd.aCo ?_ _) | (with_reducible refine Kd.aDt ?_))) | (repeat (first | exact (Kd.aAp b7X.out HB.out) | (with_reducible refine Kd.aCp ?_ _) | (with_reducible refine Kd.aCo ?_ _) | (with_reducible refine Kd.aDt ?_)))); (case aB => exact bb_); (case aF => exact (fun k_ hk => Kd.fresh' (Kd.aHf (rk_ pF.out)) k_ hk)); (case aO => exact (rk_ bPW.out)); (case aS => exact (aAj bb_)); (case aL => have := cLZ.out; have aJ9 := (show (l0.drop (aC : Int).toNat).length = (l0.length - aC.toNat) from List.length_drop); omega); intro dDM w44 ho hb hg hat; rw [← c6Z.out] at ho; have cER := am_ (ho); replace pF := am_ (Kd.aFw (ok := (fun _ => True)) (rk_ pF.out) hg hat); replace HB := am_ (hb); clear bPW; clear ho hb hg hat; refine hK.out _ _ trivial (fun hHeld => ?_); clear hK K; refine nm_ ?_; refine aBa 12 (tf 13 0) ?_; refine dn_ ?_
         try go_wp2
         go_ret
         (exact ⟨_, rr_, Kd.aBc (r3_ (Kd.aAw cER.out (fun _ hk => trivial))) HB_.out, bS0⟩)
        ·rw [if_neg c32] at H
         exact nn_ H
       ·rw [if_neg c29] at H
        exact nn_ H
      ·rw [if_neg c28] at H
       exact nn_ H
     ·rw [if_neg fV] at H
      exact nn_ H
    ·rw [if_neg c26] at H
     exact nn_ H
mutual
def bQ.j0 : Nat → List Int → Int → Int → Int → Int → ByteArray → ByteArray → List S39 → Option (List Int)
 | 0, _, _, _, _, _, _, _, _ => none
 | k + 1, x3, KR, MI, L9, LF, MK, M0, nY => bQ.l0 k x3 0 KR MI L9 LF MK M0 nY
def bQ.l0 : Nat → List Int → Int → Int → Int → Int → Int → ByteArray → ByteArray → List S39 → Option (List Int)
 | 0, _, _, _, _, _, _, _, _, _ => none
 | k + 1, x3, x4, KR, MI, L9, LF, MK, M0, nY => if x4 < (nY.length : Int) then (if 0 ≤ x4 then ((bQ.f k ((aAh nY x4).f0) ((aAh nY x4).f1) ((aAh nY x4).f2.f0) ((aAh nY x4).f2.f1) ((aAh nY x4).f2.f2) ((aAh nY x4).f3) ((aAh nY x4).f4)).bind fun aIR => (bQ.l1 k x3 x4 aIR 0 KR MI L9 LF MK M0 nY)) else (none)) else (some x3)
def bQ.l1 : Nat → List Int → Int → List Int → Int → Int → Int → Int → Int → ByteArray → ByteArray → List S39 → Option (List Int)
 | 0, _, _, _, _, _, _, _, _, _, _, _ => none
 | k + 1, x3, x4, x5, x6, KR, MI, L9, LF, MK, M0, nY => if x6 < (x5.length : Int) then (if 0 ≤ x6 then ((dL.f k x3 (rd x5 x6)).bind fun bYP => (bQ.l1 k bYP x4 x5 (wrap64 (x6 + 1)) KR MI L9 LF MK M0 nY)) else (none)) else (bQ.l0 k x3 (wrap64 (x4 + 1)) KR MI L9 LF MK M0 nY)
def bQ.f : Nat → Int → Int → Int → Int → ByteArray → ByteArray → List S39 → Option (List Int)
 | 0, _, _, _, _, _, _, _ => none
 | k + 1, aA, aD, aH, aK, aJ, aI, aQ => (some (([] : List Int) : List Int)).bind fun a0H => (if aA = 0 then ((dL.f k a0H aD).bind fun aJX => (bQ.j0 k aJX aA aD aH aK aJ aI aQ)) else (bQ.j0 k a0H aA aD aH aK aJ aI aQ))
end
theorem bQ.calls (k : Nat) : ∀ (aA aD : Int) (aH aK : Int) (aJ aI : ByteArray) (dY : Option Addr) (dR : Nat) (aQ : List S39) (r : List Int) (w : World) (gH : Kd.C jX w dY aQ.length aQ) (gI : aQ.length ≤ dR) (h : bQ.f k aA aD aH aK aJ aI aQ = some r),
  Calls Tryz.prog 69 #[.agg #[.int .i64 aA, .int .i64 aD, .int .i64 aH, .int .i64 aK, .string aJ, .string aI, .slice dY aQ.length dR]] w fun e w' => ∃ I7 : Value, e = .returned (I7) ∧ Kd.R (Kd.int .i64) 3 w' w.heap.size (fun _ => True) I7 r ∧ Below w.heap.size w w' := by
 induction k using Nat.strongRecOn with
 | _ k ih =>
 intro aA aD aH aK aJ aI dY dR aQ r w gH gI h
 cases k with
 | zero => exact absurd h (by simp [bQ.f])
 | succ k =>
 simp only [bQ.f] at h
 have zH := Tryz.underlying39
 have jZ := am_ gH
 have lG := am_ gI
 clear gH gI
 have HB := am_ (Below.refl w.heap.size w)
 have H : ((some (([] : List Int) : List Int)).bind fun a0H => (if aA = 0 then ((dL.f k a0H aD).bind fun aJX => (bQ.j0 k aJX aA aD aH aK aJ aI aQ)) else (bQ.j0 k a0H aA aD aH aK aJ aI aQ))) = some r := h
 clear h
 obtain ⟨a0H, aHM⟩ : ∃ y_ : List Int, y_ = (([] : List Int)) := ⟨_, rfl⟩
 replace H : (if aA = 0 then ((dL.f k a0H aD).bind fun aJX => (bQ.j0 k aJX aA aD aH aK aJ aI aQ)) else (bQ.j0 k a0H aA aD aH aK aJ aI aQ)) = some r := by first | (rw [aHM]; with_reducible exact H) | (have jC := (Option.bind_some _ _).symm.trans H; rw [aHM]; with_reducible exact jC) | (have jC := (Option.bind_some _ _).symm.trans H; with_reducible exact jC) | with_reducible exact H | (rw [aHM]; exact H) | exact H
 have bQ0 := am_ aHM
 clear aHM
 have HC2 := am_ H
 clear H
 go_enter Tryz.func69, Tryz.ntmps69
 go_upto_if 10 with (first | ((with_reducible refine aAc (N := 1) rfl ?_); refine bx_ 1 #[.int .i64 aA, .int .i64 aD, .int .i64 aH, .int .i64 aK, .string aJ, .string aI, .slice dY aQ.length dR] 39 ?_; intro b35 hg w3 hbox hb; have qQ := am_ (hbox); have cGR := gw_ hg; replace HB := bs_ hb; clear hb hbox hg) | ((with_reducible refine aAc (N := 7) rfl ?_); refine Kd.aPq (Kd.int .i64) _ 3 ?hg (N := 7) ?hd (xs := ([] : List Int)) (inner := []) (ok := fun _ => True) (okp := fun _ => True) ?hr ?hp (fun _ hk => hk) trivial (Below.refl _ _) (Nat.le_refl _) (by simp) ?_; (case hd => rfl); (case hg => rfl); (case hr => first | (go_simp; done) | (go_simp; rfl)); (case hp => exact (aBt.none _ _)); intro dE0 w4 EY hb DZ j4; clear DZ j4; (first | rw [← bQ0.out] at EY | (simp only [Int.reduceToNat] at EY; rw [← bQ0.out] at EY)); have aCO := am_ (Kd.aBc EY (aAj bb_)); replace qQ := aAt qQ hb; replace HB := bs_ hb; clear hb EY; obtain ⟨kW, kU, oU, pG, oK, oJ, oO, kY, lH, oW, oV, p9, pI, oH⟩ := b7_ qQ))
 (try simp only [Act.put, List.setIfInBounds_toArray, List.set_cons_zero, List.set_cons_succ])
 go_cut [3] (fun v3 wc => ∃ (kq : Nat) (bA : List Int), Aside0 (bQ.j0 kq bA aA aD aH aK aJ aI aQ = some r) ∧ Aside0 (kq ≤ k) ∧ Aside0 (Kd.R (Kd.int .i64) 3 wc w.heap.size (fun _ => True) v3 bA) ∧ Aside0 (wc.heap[b35]? = some (.cells #[.int .i64 aA, .int .i64 aD, .int .i64 aH, .int .i64 aK, .string aJ, .string aI, (.slice dY aQ.length dR)] 39 (0, 0))) ∧ Aside0 (Below w.heap.size w wc))
 case first =>
  have H := HC2.out; clear HC2
  by_cases c7 : aA = 0
  ·rw [if_pos c7] at H
   have iV : (aA == 0) = true := beq_iff_eq.mpr c7; have zG : (aA != 0) = false := bne_eq_false_iff_eq.mpr c7; clear c7; (first | rw [iV] | (simp only [aCj, aCw]; rw [iV]) | skip); replace H := aBp H; obtain ⟨aJX, RY, H⟩ := H
   try dsimp only at H
   have A8 := am_ RY; clear RY; have H' := am_ H; clear H; obtain ⟨mX, nC, xB, K7, JW, KA, IY, nH, nG, x9, JG, JO, J6, II⟩ := b7_ qQ; obtain ⟨bVS, DY, DX⟩ := Kd.aBj aCO.out; subst DX
   go_wp2_with (first | ((with_reducible refine aAa (f := 92) rfl ?_); refine aBh (some 14) Tryz.func92 #[.slice bVS a0H.length DY, .int .i64 aD] ?_; (with_reducible refine (dL.calls _ _ _ _ _ _ w.heap.size _ (aAj bb_) (rk_ (Kd.aAw aCO.out (fun _ _ => trivial))) A8.out).mono ?_); rintro e jI ⟨dCI, rfl, ho0, hb⟩; refine ⟨_, rfl, ?_⟩; have cBJ := am_ ho0; replace aCO := am_ (Kd.aAs (rk_ aCO.out) hb); replace qQ := aAt qQ hb; replace HB := bs_ hb; clear hb ho0))
   go_meet
   case rel => exact ⟨_, (aJX), H', ⟨by first | omega | exact Nat.le_refl _⟩, ⟨by (with_reducible repeat (first | apply Kd.aBf | apply Kd.aBg | apply Kd.aBi)); exact Kd.aAw cBJ.out (fun _ hk => trivial)⟩, ⟨aBx qQ.out⟩, ⟨bb_⟩⟩
  ·rw [if_neg c7] at H
   have iV : (aA == 0) = false := beq_eq_false_iff_ne.mpr c7; have zG : (aA != 0) = true := bne_iff_ne.mpr c7; (first | rw [iV] | (simp only [aCj, aCw]; rw [iV]) | skip); have H' := am_ H; clear H
   go_wp2
   go_meet
   case rel => exact ⟨_, (a0H), H', ⟨by first | omega | exact Nat.le_refl _⟩, ⟨by (with_reducible repeat (first | apply Kd.aBf | apply Kd.aBg | apply Kd.aBi)); exact aCO.out⟩, ⟨aBx qQ.out⟩, ⟨bb_⟩⟩
 case rest =>
  clear HC2; (try clear p2); (try clear c6); (try clear c7); (try clear iV); (try clear zG); (try clear c9); (try clear kW kU oU pG oK oJ oO); (try clear mX nC xB K7 JW KA IY); (try clear kY lH oW oV p9 pI oH); (try clear nH nG x9 JG JO J6 II); obtain ⟨kq, bA, HA, HJ1, dS, qQ, HB⟩ := hcut
  cases kq with
  | zero => exact absurd HA.out (by simp [bQ.j0])
  | succ kj1 =>
   have H := HA.out; clear HA; simp only [bQ.j0] at H; have H' := am_ H; clear H
   go_wp2
   go_loopg [3, 4] kj1 (fun kq v3 v4 w' => ∃ (bGG : List Int) (yH : Int), v4 = .int .i64 yH ∧ Aside0 (bQ.l0 kq bGG yH aA aD aH aK aJ aI aQ = some r) ∧ Aside0 (kq ≤ kj1) ∧ Aside0 (Kd.R (Kd.int .i64) 3 w' w.heap.size (fun _ => True) v3 bGG) ∧ Aside0 (w'.heap[b35]? = some (.cells #[.int .i64 aA, .int .i64 aD, .int .i64 aH, .int .i64 aK, .string aJ, .string aI, (.slice dY aQ.length dR)] 39 (0, 0))) ∧ Aside0 (Below w.heap.size w w'))
   case atStart => exact ⟨(bA), (0), rs_, H', ⟨Nat.le_refl _⟩, ⟨by (with_reducible repeat (first | apply Kd.aBf | apply Kd.aBg | apply Kd.aBi)); exact dS.out⟩, ⟨aBx qQ.out⟩, ⟨bb_⟩⟩
   case round =>
    clear H'; (try clear p2); (try clear c6); (try clear c7); (try clear iV); (try clear zG); (try clear c9); (try clear kW kU oU pG oK oJ oO); (try clear mX nC xB K7 JW KA IY); (try clear kY lH oW oV p9 pI oH); (try clear nH nG x9 JG JO J6 II); (try clear p2); obtain ⟨bGG, yH, rfl, HA, YB, dS, qQ, HB⟩ := hrel
    cases gk with
    | zero => exact absurd HA.out (by simp [bQ.l0])
    | succ k2 =>
     have H := HA.out; clear HA; simp only [bQ.l0] at H
     by_cases c12 : yH < (aQ.length : Int)
     ·rw [if_pos c12] at H
      have uK := decide_eq_true c12; clear c12
      by_cases c13 : 0 ≤ yH
      ·rw [if_pos c13] at H
       have JL := decide_eq_true c13; clear c13; replace H := aBp H; obtain ⟨aIR, aEI, H⟩ := H
       try dsimp only at H
       have SH := am_ aEI; clear aEI; have H' := am_ H; clear H; obtain ⟨pX, pU, rQ, BZ, CW, BN, DK, pJ, pR, rR, BJ, DC, BH, CQ⟩ := b7_ qQ; (have bD4 : 0 ≤ (yH : Int) := oa_); (have bLE : yH < (aQ.length : Int) := oa_); obtain ⟨cMO, bWW, bY7, e258, aBJ, a2M, a2D, a9R, aBY, a6M, a6D, aLK, aWZ⟩ := I5 jZ.out yH bD4 bLE; cases e258; obtain ⟨aBJ, a2M, a2D, a9R, aBY, a6M, a6D⟩ := aSm HB aBJ a2M a2D a9R aBY a6M a6D; have bN9 := am_ aWZ; have bE2 := am_ aLK; clear aWZ aLK; replace bD4 := eq_true bD4; replace bLE := eq_true bLE
       go_wp2_with (first | ((with_reducible refine aAa (f := 69) rfl ?_); refine aBh (some 27) Tryz.func69 #[.agg #[.int .i64 ((aAh aQ yH).f0), .int .i64 ((aAh aQ yH).f1), .int .i64 ((aAh aQ yH).f2.f0), .int .i64 ((aAh aQ yH).f2.f1), .string ((aAh aQ yH).f2.f2), .string ((aAh aQ yH).f3), .slice bWW ((aAh aQ yH).f4).length bY7]] ?_; (with_reducible refine (ih k2 (by have := HJ1.out; have := YB.out; omega) ((aAh aQ yH).f0) ((aAh aQ yH).f1) ((aAh aQ yH).f2.f0) ((aAh aQ yH).f2.f1) ((aAh aQ yH).f2.f2) ((aAh aQ yH).f3) _ _ ((aAh aQ yH).f4) aIR _ ?fM ?fO SH.out).mono ?_); (case fM => exact cb_ bN9 HB); (case fO => exact bE2.out); rintro e w16 ⟨d5V, rfl, ho0, hb⟩; refine ⟨_, rfl, ?_⟩; have bPS := am_ (Kd.aBc (Kd.aDv ho0 (Kd.aHf (rk_ dS.out))) (aAj bb_)); replace dS := am_ (Kd.aCi (rk_ dS.out) (Kd.aCn ho0) hb); replace qQ := aAt qQ hb; replace HB := bs_ hb; clear hb ho0))
       go_loopg [3, 6] k2 (fun kq v3 v6 w' => ∃ (b1P : List Int) (a02 : Int), v6 = .int .i64 a02 ∧ Aside0 (bQ.l1 kq b1P yH aIR a02 aA aD aH aK aJ aI aQ = some r) ∧ Aside0 (kq ≤ k2) ∧ Aside0 (Kd.R (Kd.int .i64) 3 w' w.heap.size (fun _ => True) v3 b1P) ∧ Aside0 (Kd.R (Kd.int .i64) 3 w' w.heap.size (fun _ => True) d5V aIR) ∧ Aside0 (w'.heap[b35]? = some (.cells #[.int .i64 aA, .int .i64 aD, .int .i64 aH, .int .i64 aK, .string aJ, .string aI, (.slice (some cMO) aQ.length dR)] 39 (0, 0))) ∧ Aside0 (Below w.heap.size w w'))
       case atStart => exact ⟨(bGG), (0), rs_, H', ⟨Nat.le_refl _⟩, ⟨by (with_reducible repeat (first | apply Kd.aBf | apply Kd.aBg | apply Kd.aBi)); exact Kd.aAw dS.out (fun _ hk => trivial)⟩, ⟨by (with_reducible repeat (first | apply Kd.aBf | apply Kd.aBg | apply Kd.aBi)); exact Kd.aAw bPS.out (fun _ hk => trivial)⟩, ⟨aBx qQ.out⟩, ⟨bb_⟩⟩
       case round =>
        clear H'; (try clear c1); (try clear c2); (try clear p2); (try clear q2); (try clear hx2); (try clear c6); (try clear c7); (try clear iV); (try clear zG); (try clear c9); (try clear c12); (try clear uK); (try clear c13); (try clear JL); (try clear pX pU rQ BZ CW BN DK); (try clear kW kU oU pG oK oJ oO); (try clear mX nC xB K7 JW KA IY); (try clear pJ pR rR BJ DC BH CQ); (try clear kY lH oW oV p9 pI oH); (try clear nH nG x9 JG JO J6 II); (try clear aBJ); (try clear a2M); (try clear a2D); (try clear a9R); (try clear aBY); (try clear a6M); (try clear a6D); (try clear p2); (try clear bD4); (try clear bLE); (try clear dS); (try clear bPS); obtain ⟨b1P, a02, rfl, HA, HK3, dS, aZB, qQ, HB⟩ := hrel
        cases gk with
        | zero => exact absurd HA.out (by simp [bQ.l1])
        | succ k3 =>
         have H := HA.out; clear HA; simp only [bQ.l1] at H
         by_cases c17 : a02 < (aIR.length : Int)
         ·rw [if_pos c17] at H
          have b5K := decide_eq_true c17; clear c17
          by_cases c18 : 0 ≤ a02
          ·rw [if_pos c18] at H
           have a1M := decide_eq_true c18; clear c18; replace H := aBp H; obtain ⟨bYP, c8R, H⟩ := H
           try dsimp only at H
           have A19 := am_ c8R; clear c8R; have H' := am_ H; clear H; obtain ⟨cHL, cLQ, c1U⟩ := Kd.aBj aZB.out; subst c1U; (have bVD : 0 ≤ (a02 : Int) := oa_); (have bUG : a02 < (aIR.length : Int) := oa_); obtain ⟨d7S, e262, cWY⟩ := Kd.aCe (Kd.aAr aZB.out).2.2 a02 bVD bUG; cases e262; replace bVD := eq_true bVD; replace bUG := eq_true bUG; obtain ⟨cK7, cM1, bRC⟩ := Kd.aBj dS.out; subst bRC
           go_wp2_with (first | ((with_reducible refine aAa (f := 92) rfl ?_); refine aBh (some 39) Tryz.func92 #[.slice cK7 b1P.length cM1, .int .i64 (rd aIR a02)] ?_; (with_reducible refine (dL.calls _ _ _ _ _ _ w.heap.size _ (aAj bb_) (rk_ (Kd.aAw dS.out (fun _ _ => trivial))) A19.out).mono ?_); rintro e w22 ⟨dBT, rfl, ho0, hb⟩; refine ⟨_, rfl, ?_⟩; have c3P := am_ ho0; replace dS := am_ (Kd.aAs (rk_ dS.out) hb); replace aZB := am_ (Kd.aAs (rk_ aZB.out) hb); replace qQ := aAt qQ hb; replace HB := bs_ hb; clear hb ho0))
           go_roundg k3
           case measure => have := HJ1.out; have := YB.out; have := HK3.out; omega
           case rel => exact ⟨(bYP), (wrap64 (a02 + 1)), rs_, H', ⟨by have := HJ1.out; have := YB.out; have := HK3.out; omega⟩, ⟨by (with_reducible repeat (first | apply Kd.aBf | apply Kd.aBg | apply Kd.aBi)); exact Kd.aAw c3P.out (fun _ hk => trivial)⟩, ⟨by (with_reducible repeat (first | apply Kd.aBf | apply Kd.aBg | apply Kd.aBi)); exact Kd.aAw aZB.out (fun _ hk => trivial)⟩, ⟨aBx qQ.out⟩, ⟨bb_⟩⟩
          ·rw [if_neg c18] at H
           exact nn_ H
         ·rw [if_neg c17] at H
          have b5K := decide_eq_false c17; clear c17; have H' := am_ H; clear H; obtain ⟨dDO, dE2, d6M⟩ := Kd.aBj aZB.out; subst d6M
          go_wp2
          go_roundg k3
          case measure => have := HJ1.out; have := YB.out; have := HK3.out; omega
          case rel => exact ⟨(b1P), (wrap64 (yH + 1)), rs_, H', ⟨by have := HJ1.out; have := YB.out; have := HK3.out; omega⟩, ⟨by (with_reducible repeat (first | apply Kd.aBf | apply Kd.aBg | apply Kd.aBi)); exact Kd.aAw dS.out (fun _ hk => trivial)⟩, ⟨aBx qQ.out⟩, ⟨bb_⟩⟩
      ·rw [if_neg c13] at H
       exact nn_ H
     ·rw [if_neg c12] at H
      have uK := decide_eq_false c12; clear c12; obtain rfl := Option.some.inj H; obtain ⟨SC, OA, PM, V8, UR, WA, VP, QW, P6, PN, XK, V7, UZ, VR⟩ := b7_ qQ
      go_wp2
      go_ret
      (exact ⟨_, rr_, by (with_reducible repeat (first | apply Kd.aBf | apply Kd.aBg | apply Kd.aBi)); exact dS.out, by repeat (first | (with_reducible first | exact HB.out | apply aAi | apply aAo | apply aAm | refine aAk ?_ cGR.out) | exact HB.out)⟩)

def j5.f (aA aD : Int) (aH : ByteArray) : Option Bool := if aA = 0 then (if aD = 0 then (some (aH.toList == ([] : List UInt8))) else (some false)) else (if aA = 1 then (some (aH.toList == ([] : List UInt8))) else (if aA = 2 then ((bN.f aD 0 1).bind fun b4L => (if b4L = true then (some (aH.toList == ([] : List UInt8))) else (some false))) else (if aA = 3 then (if aD = 0 then (some (decide ((aH.size : Int) ≤ 100))) else (some false)) else (some false))))
theorem j5.calls (aA aD : Int) (aH : ByteArray) (r : Bool) (w : World) (h : j5.f aA aD aH = some r) :
  Calls Tryz.prog 112 #[.agg #[.int .i64 aA, .int .i64 aD, .string aH]] w fun e w' => e = .returned (.bool r) ∧ Below w.heap.size w w' := by
 have QU := Tryz.underlying36
 have HB := am_ (Below.refl w.heap.size w)
 have H : (if aA = 0 then (if aD = 0 then (some (aH.toList == ([] : List UInt8))) else (some false)) else (if aA = 1 then (some (aH.toList == ([] : List UInt8))) else (if aA = 2 then ((bN.f aD 0 1).bind fun b4L => (if b4L = true then (some (aH.toList == ([] : List UInt8))) else (some false))) else (if aA = 3 then (if aD = 0 then (some (decide ((aH.size : Int) ≤ 100))) else (some false)) else (some false))))) = some r := h
 clear h
 by_cases c2 : aA = 0
 ·rw [if_pos c2] at H
  have qD : (aA == 0) = true := beq_iff_eq.mpr c2; have JA : (aA != 0) = false := bne_eq_false_iff_eq.mpr c2; clear c2
  by_cases c3 : aD = 0
  ·rw [if_pos c3] at H
   have fC : (aD == 0) = true := beq_iff_eq.mpr c3; have lI : (aD != 0) = false := bne_eq_false_iff_eq.mpr c3; clear c3; obtain rfl := Option.some.inj H
   go_enter Tryz.func112, Tryz.ntmps112
   go_wp2_with (first | ((with_reducible refine aAc (N := 1) rfl ?_); (try (refine aAn (by rfl) ?_; dsimp only)); refine bx_ 1 #[.int .i64 aA, .int .i64 aD, .string aH] 36 ?_; intro XP hg w4 hbox hb; have zP := am_ (hbox); have XX := gw_ hg; replace HB := bs_ hb; clear hb hbox hg; obtain ⟨IG, JR, JN, IK, IW, IX⟩ := b3_ zP))
   go_ret
   exact ⟨er_, bb_⟩
  ·rw [if_neg c3] at H
   have fC : (aD == 0) = false := beq_eq_false_iff_ne.mpr c3; have lI : (aD != 0) = true := bne_iff_ne.mpr c3; obtain rfl := Option.some.inj H
   go_enter Tryz.func112, Tryz.ntmps112
   go_wp2_with (first | ((with_reducible refine aAc (N := 1) rfl ?_); (try (refine aAn (by rfl) ?_; dsimp only)); refine bx_ 1 #[.int .i64 aA, .int .i64 aD, .string aH] 36 ?_; intro XP hg w6 hbox hb; have zP := am_ (hbox); have XX := gw_ hg; replace HB := bs_ hb; clear hb hbox hg; obtain ⟨uN, uU, FR, uY, uP, FJ⟩ := b3_ zP))
   go_ret
   exact ⟨er_, bb_⟩
 ·rw [if_neg c2] at H
  have qD : (aA == 0) = false := beq_eq_false_iff_ne.mpr c2; have JA : (aA != 0) = true := bne_iff_ne.mpr c2
  by_cases c8 : aA = 1
  ·rw [if_pos c8] at H
   have J4 : (aA == 1) = true := beq_iff_eq.mpr c8; have aHL : (aA != 1) = false := bne_eq_false_iff_eq.mpr c8; clear c8; obtain rfl := Option.some.inj H
   go_enter Tryz.func112, Tryz.ntmps112
   go_wp2_with (first | ((with_reducible refine aAc (N := 1) rfl ?_); (try (refine aAn (by rfl) ?_; dsimp only)); refine bx_ 1 #[.int .i64 aA, .int .i64 aD, .string aH] 36 ?_; intro XP hg w9 hbox hb; have zP := am_ (hbox); have XX := gw_ hg; replace HB := bs_ hb; clear hb hbox hg; obtain ⟨lN, lL, nI, lM, lJ, nD⟩ := b3_ zP))
   go_ret
   exact ⟨er_, bb_⟩
  ·rw [if_neg c8] at H
   have J4 : (aA == 1) = false := beq_eq_false_iff_ne.mpr c8; have aHL : (aA != 1) = true := bne_iff_ne.mpr c8
   by_cases c11 : aA = 2
   ·rw [if_pos c11] at H
    have ND : (aA == 2) = true := beq_iff_eq.mpr c11; have b2W : (aA != 2) = false := bne_eq_false_iff_eq.mpr c11; clear c11; replace H := aBp H; obtain ⟨b4L, HY, H⟩ := H
    try dsimp only at H
    have KZ := am_ HY; clear HY
    by_cases c13 : b4L = true
    ·subst c13
     rw [if_pos rfl] at H; obtain rfl := Option.some.inj H
     go_enter Tryz.func112, Tryz.ntmps112
     go_wp2_with (first | ((with_reducible refine aAc (N := 1) rfl ?_); (try (refine aAn (by rfl) ?_; dsimp only)); refine bx_ 1 #[.int .i64 aA, .int .i64 aD, .string aH] 36 ?_; intro XP hg w14 hbox hb; have zP := am_ (hbox); have XX := gw_ hg; replace HB := bs_ hb; clear hb hbox hg; obtain ⟨pX, pU, rQ, pJ, pR, rR⟩ := b3_ zP) | ((with_reducible refine aAa (f := 50) rfl ?_); refine aBh (some 24) Tryz.func50 #[.int .i64 aD, .int .i64 0, .int .i64 1] ?_; (with_reducible refine (bN.calls _ _ _ _ _ KZ.out).mono ?_); rintro e w' ⟨rfl, ⟨nd, rfl⟩⟩; refine ⟨_, rfl, ?_⟩))
     go_ret
     exact ⟨er_, bb_⟩
    ·replace c13 := Bool.eq_false_iff.mpr c13
     subst c13; replace H := aZf H; obtain rfl := Option.some.inj H
     go_enter Tryz.func112, Tryz.ntmps112
     go_wp2_with (first | ((with_reducible refine aAc (N := 1) rfl ?_); (try (refine aAn (by rfl) ?_; dsimp only)); refine bx_ 1 #[.int .i64 aA, .int .i64 aD, .string aH] 36 ?_; intro XP hg w16 hbox hb; have zP := am_ (hbox); have XX := gw_ hg; replace HB := bs_ hb; clear hb hbox hg; obtain ⟨uE, sJ, vV, tL, uF, vS⟩ := b3_ zP) | ((with_reducible refine aAa (f := 50) rfl ?_); refine aBh (some 24) Tryz.func50 #[.int .i64 aD, .int .i64 0, .int .i64 1] ?_; (with_reducible refine (bN.calls _ _ _ _ _ KZ.out).mono ?_); rintro e w' ⟨rfl, ⟨nd, rfl⟩⟩; refine ⟨_, rfl, ?_⟩))
     go_ret
     exact ⟨er_, bb_⟩
   ·rw [if_neg c11] at H
    have ND : (aA == 2) = false := beq_eq_false_iff_ne.mpr c11; have b2W : (aA != 2) = true := bne_iff_ne.mpr c11
    by_cases c18 : aA = 3
    ·rw [if_pos c18] at H
     have a1M : (aA == 3) = true := beq_iff_eq.mpr c18; have b1H : (aA != 3) = false := bne_eq_false_iff_eq.mpr c18; clear c18
     by_cases c19 : aD = 0
     ·rw [if_pos c19] at H
      have U4 : (aD == 0) = true := beq_iff_eq.mpr c19; have aEB : (aD != 0) = false := bne_eq_false_iff_eq.mpr c19; clear c19; obtain rfl := Option.some.inj H
      go_enter Tryz.func112, Tryz.ntmps112
      go_wp2_with (first | ((with_reducible refine aAc (N := 1) rfl ?_); (try (refine aAn (by rfl) ?_; dsimp only)); refine bx_ 1 #[.int .i64 aA, .int .i64 aD, .string aH] 36 ?_; intro XP hg w20 hbox hb; have zP := am_ (hbox); have XX := gw_ hg; replace HB := bs_ hb; clear hb hbox hg; obtain ⟨uD, uC, y7, tZ, sU, yA⟩ := b3_ zP))
      go_ret
      exact ⟨er_, bb_⟩
     ·rw [if_neg c19] at H
      have U4 : (aD == 0) = false := beq_eq_false_iff_ne.mpr c19; have aEB : (aD != 0) = true := bne_iff_ne.mpr c19; obtain rfl := Option.some.inj H
      go_enter Tryz.func112, Tryz.ntmps112
      go_wp2_with (first | ((with_reducible refine aAc (N := 1) rfl ?_); (try (refine aAn (by rfl) ?_; dsimp only)); refine bx_ 1 #[.int .i64 aA, .int .i64 aD, .string aH] 36 ?_; intro XP hg w22 hbox hb; have zP := am_ (hbox); have XX := gw_ hg; replace HB := bs_ hb; clear hb hbox hg; obtain ⟨tC, sH, sQ, sK, sV, sS⟩ := b3_ zP))
      go_ret
      exact ⟨er_, bb_⟩
    ·rw [if_neg c18] at H
     have a1M : (aA == 3) = false := beq_eq_false_iff_ne.mpr c18; have b1H : (aA != 3) = true := bne_iff_ne.mpr c18; obtain rfl := Option.some.inj H
     go_enter Tryz.func112, Tryz.ntmps112
     go_wp2_with (first | ((with_reducible refine aAc (N := 1) rfl ?_); (try (refine aAn (by rfl) ?_; dsimp only)); refine bx_ 1 #[.int .i64 aA, .int .i64 aD, .string aH] 36 ?_; intro XP hg w24 hbox hb; have zP := am_ (hbox); have XX := gw_ hg; replace HB := bs_ hb; clear hb hbox hg; obtain ⟨uG, uH, vI, sI, tO, vQ⟩ := b3_ zP))
     go_ret
     exact ⟨er_, bb_⟩

def iJ.l0 : Nat → List ByteArray → ByteArray → Int → Option Bool
 | 0, _, _, _ => none
 | k + 1, x0, x1, x5 => if x5 < (x0.length : Int) then (if 0 ≤ x5 then (if (aGm ByteArray.empty x0 x5).toList = x1.toList then (some true) else (iJ.l0 k x0 x1 (wrap64 (x5 + 1)))) else (none)) else (some false)
def iJ.f (k : Nat) (l0 : List ByteArray) (a1 : ByteArray) : Option Bool := iJ.l0 k l0 a1 0
theorem iJ.calls (k : Nat) (A0 : Option Addr) (c0 : Nat) (l0 : List ByteArray) (a1 : ByteArray) (r : Bool) (w : World) (hr0 : Kd.C Kd.string w A0 l0.length l0) (hc0 : l0.length ≤ c0) (h : iJ.f k l0 a1 = some r) :
  Calls Tryz.prog 113 #[.slice A0 l0.length c0, .string a1] w fun e w' => e = .returned (.bool r) ∧ aAu w w' := by
 have jY := am_ hr0
 have oQ := am_ hc0
 clear hr0 hc0
 have H : (iJ.l0 k l0 a1 0) = some r := h
 clear h
 have H' := am_ H
 clear H
 go_enter Tryz.func113, Tryz.ntmps113
 go_wp2
 go_loopg [5] k (fun kq v5 w' => ∃ (aC : Int), v5 = .int .i64 aC ∧ Aside0 (iJ.l0 kq l0 a1 aC = some r) ∧ Aside0 (kq ≤ k) ∧ aAu w w')
 case atStart => exact ⟨(0), rs_, H', ⟨Nat.le_refl _⟩, by repeat (first | exact aAu.refl _ | apply aAu.step)⟩
 case round =>
  clear H'; (try clear c1); (try clear p2); obtain ⟨aC, rfl, HA, jK, ⟨m1, rfl⟩⟩ := hrel
  cases gk with
  | zero => exact absurd HA.out (by simp [iJ.l0])
  | succ k1 =>
   have H := HA.out; clear HA; simp only [iJ.l0] at H
   by_cases c3 : aC < (l0.length : Int)
   ·rw [if_pos c3] at H
    have fC := decide_eq_true c3; clear c3
    by_cases c4 : 0 ≤ aC
    ·rw [if_pos c4] at H
     have iB := decide_eq_true c4; clear c4; have gY := am_ H; clear H; (have c0U : 0 ≤ (aC : Int) := oa_); (have bZ2 : aC < (l0.length : Int) := oa_); obtain ⟨d9R, e268, cYV⟩ := Kd.aGd jY.out aC c0U bZ2; cases e268; replace c0U := eq_true c0U; replace bZ2 := eq_true bZ2; have H := gY.out; clear gY
     by_cases c5 : (aGm ByteArray.empty l0 aC).toList = a1.toList
     ·rw [if_pos c5] at H
      have pV : ((aGm ByteArray.empty l0 aC).toList == a1.toList) = true := beq_iff_eq.mpr c5; have NR : ((aGm ByteArray.empty l0 aC).toList != a1.toList) = false := bne_eq_false_iff_eq.mpr c5; clear c5; obtain rfl := Option.some.inj H
      go_wp2
      go_ret
      (exact ⟨by first | rfl | (simp; done) | (simp [*]; done), by repeat (first | exact aAu.refl _ | apply aAu.step)⟩)
     ·rw [if_neg c5] at H
      have pV : ((aGm ByteArray.empty l0 aC).toList == a1.toList) = false := beq_eq_false_iff_ne.mpr c5; have NR : ((aGm ByteArray.empty l0 aC).toList != a1.toList) = true := bne_iff_ne.mpr c5; have H' := am_ H; clear H
      go_wp2
      go_roundg k1
      case measure => have := jK.out; omega
      case rel => exact ⟨(wrap64 (aC + 1)), rs_, H', ⟨by have := jK.out; omega⟩, by repeat (first | exact aAu.refl _ | apply aAu.step)⟩
    ·rw [if_neg c4] at H
     exact nn_ H
   ·rw [if_neg c3] at H
    have fC := decide_eq_false c3; clear c3; obtain rfl := Option.some.inj H
    go_wp2
    go_ret
    (exact ⟨by first | rfl | (simp; done) | (simp [*]; done), by repeat (first | exact aAu.refl _ | apply aAu.step)⟩)
mutual
def dD.l0 : Nat → Int → Int → Int → Int → Int → Int → ByteArray → ByteArray → List S39 → Option Bool
 | 0, _, _, _, _, _, _, _, _, _ => none
 | k + 1, x1, x5, xQ, FO, FI, FD, FU, xV, lZ => if x5 < (lZ.length : Int) then (if 0 ≤ x5 then ((dD.f k ((aAh lZ x5).f0) ((aAh lZ x5).f1) ((aAh lZ x5).f2.f0) ((aAh lZ x5).f2.f1) ((aAh lZ x5).f2.f2) ((aAh lZ x5).f3) ((aAh lZ x5).f4) (wrap64 (x1 - 1))).bind fun c1P => (if c1P = true then (dD.l0 k x1 (wrap64 (x5 + 1)) xQ FO FI FD FU xV lZ) else (some false))) else (none)) else (if FO = 0 then (dD.j1 k (FI == 0 && (FD == 0 && (FU.toList == ([] : List UInt8)))) xQ FO FI FD FU xV lZ) else (dD.j1 k false xQ FO FI FD FU xV lZ))
def dD.j1 : Nat → Bool → Int → Int → Int → Int → ByteArray → ByteArray → List S39 → Option Bool
 | 0, _, _, _, _, _, _, _, _ => none
 | k + 1, x6, xQ, FO, FI, FD, FU, xV, lZ => if xQ = 0 then ((bN.f FO 0 11).bind fun bRZ => (if bRZ = true then (if (FI == 0 && (FD == 0 && (FU.toList == ([] : List UInt8)))) = true then (if xV.toList = ([] : List UInt8) then (some ((lZ.length : Int) == 0)) else (some false)) else (some false)) else (some false))) else (if xQ = 1 then ((j5.f FI FD FU).bind fun bXK => (if bXK = true then (if FO = 0 then (if xV.toList = ([] : List UInt8) then (some ((lZ.length : Int) == 0)) else (some false)) else (some false)) else (some false))) else (if xQ = 2 then (if x6 = true then (if (lZ.length : Int) = 2 then ((iJ.f k (([(⟨#[43]⟩ : ByteArray), (⟨#[45]⟩ : ByteArray), (⟨#[42]⟩ : ByteArray), (⟨#[47]⟩ : ByteArray), (⟨#[61]⟩ : ByteArray), (⟨#[60]⟩ : ByteArray), (⟨#[126]⟩ : ByteArray), (⟨#[97, 110, 100]⟩ : ByteArray), (⟨#[111, 114]⟩ : ByteArray)] : List ByteArray)) xV).bind fun bGD => (some bGD)) else (some false)) else (some false)) else (if xQ = 3 then (if x6 = true then (if xV.toList = ([] : List UInt8) then (some ((lZ.length : Int) == 1)) else (some false)) else (some false)) else (if xQ = 4 then (if x6 = true then (if xV.toList = ([] : List UInt8) then (some ((lZ.length : Int) == 1)) else (some false)) else (some false)) else (some false)))))
def dD.f : Nat → Int → Int → Int → Int → ByteArray → ByteArray → List S39 → Int → Option Bool
 | 0, _, _, _, _, _, _, _, _ => none
 | k + 1, aA, aD, aH, aK, aJ, aI, aQ, a1 => if a1 < 0 then (some false) else (dD.l0 k a1 0 aA aD aH aK aJ aI aQ)
end
theorem dD.calls (k : Nat) : ∀ (aA aD : Int) (aH aK : Int) (aJ aI : ByteArray) (dY : Option Addr) (dR : Nat) (aQ : List S39) (a1 : Int) (r : Bool) (w : World) (gH : Kd.C jX w dY aQ.length aQ) (gI : aQ.length ≤ dR) (h : dD.f k aA aD aH aK aJ aI aQ a1 = some r),
  Calls Tryz.prog 93 #[.agg #[.int .i64 aA, .int .i64 aD, .int .i64 aH, .int .i64 aK, .string aJ, .string aI, .slice dY aQ.length dR], .int .i64 a1] w fun e w' => e = .returned (.bool r) ∧ Below w.heap.size w w' := by
 induction k using Nat.strongRecOn with
 | _ k ih =>
 intro aA aD aH aK aJ aI dY dR aQ a1 r w gH gI h
 cases k with
 | zero => exact absurd h (by simp [dD.f])
 | succ k =>
 simp only [dD.f] at h
 obtain ⟨zH, QU⟩ := aSC
 have jZ := am_ gH
 have lG := am_ gI
 clear gH gI
 have HB := am_ (Below.refl w.heap.size w)
 have H : (if a1 < 0 then (some false) else (dD.l0 k a1 0 aA aD aH aK aJ aI aQ)) = some r := h
 clear h
 by_cases c3 : a1 < 0
 ·rw [if_pos c3] at H
  have fC := decide_eq_true c3; clear c3; obtain rfl := Option.some.inj H
  go_enter Tryz.func93, Tryz.ntmps93
  go_wp2_with (first | ((with_reducible refine aAc (N := 2) rfl ?_); (try (refine aAn (by rfl) ?_; dsimp only)); refine bx_ 2 #[.int .i64 aA, .int .i64 aD, .int .i64 aH, .int .i64 aK, .string aJ, .string aI, .slice dY aQ.length dR] 39 ?_; intro b9P hg w4 hbox hb; have iO := am_ (hbox); have cE4 := gw_ hg; replace HB := bs_ hb; clear hb hbox hg))
  go_ret
  exact ⟨er_, bb_⟩
 ·rw [if_neg c3] at H
  have fC := decide_eq_false c3; clear c3; have H' := am_ H; clear H
  go_enter Tryz.func93, Tryz.ntmps93
  go_wp2_with (first | ((with_reducible refine aAc (N := 2) rfl ?_); (try (refine aAn (by rfl) ?_; dsimp only)); refine bx_ 2 #[.int .i64 aA, .int .i64 aD, .int .i64 aH, .int .i64 aK, .string aJ, .string aI, .slice dY aQ.length dR] 39 ?_; intro b9P hg w5 hbox hb; have iO := am_ (hbox); have cE4 := gw_ hg; replace HB := bs_ hb; clear hb hbox hg))
  go_loopg [5] k (fun kq v5 w' => ∃ (aC : Int), v5 = .int .i64 aC ∧ Aside0 (dD.l0 kq a1 aC aA aD aH aK aJ aI aQ = some r) ∧ Aside0 (kq ≤ k) ∧ Aside0 (w'.heap[b9P]? = some (.cells #[.int .i64 aA, .int .i64 aD, .int .i64 aH, .int .i64 aK, .string aJ, .string aI, (.slice dY aQ.length dR)] 39 (0, 0))) ∧ Aside0 (Below w.heap.size w w'))
  case atStart => exact ⟨(0), rs_, H', ⟨Nat.le_refl _⟩, ⟨aBx iO.out⟩, ⟨bb_⟩⟩
  case round =>
   clear H'; (try clear p2); (try clear c3); (try clear fC); obtain ⟨aC, rfl, HA, jK, iO, HB⟩ := hrel
   cases gk with
   | zero => exact absurd HA.out (by simp [dD.l0])
   | succ k1 =>
    have H := HA.out; clear HA; simp only [dD.l0] at H
    by_cases c6 : aC < (aQ.length : Int)
    ·rw [if_pos c6] at H
     have mY := decide_eq_true c6; clear c6
     by_cases c7 : 0 ≤ aC
     ·rw [if_pos c7] at H
      have iV := decide_eq_true c7; clear c7; replace H := aBp H; obtain ⟨c1P, RY, H⟩ := H
      try dsimp only at H
      have A8 := am_ RY; clear RY; have gY := am_ H; clear H; obtain ⟨lN, lL, nI, DD, BX, DI, D8, lM, lJ, nD, DF, CU, CE, CV⟩ := b7_ iO; (have bHL : 0 ≤ (aC : Int) := oa_); (have bM1 : aC < (aQ.length : Int) := oa_); obtain ⟨dB1, b8N, b8T, e270, a2X, a4U, aAX, a4W, a4Z, a8Y, a6S, aRO, aUI⟩ := I5 jZ.out aC bHL bM1; cases e270; obtain ⟨a2X, a4U, aAX, a4W, a4Z, a8Y, a6S⟩ := aSm HB a2X a4U aAX a4W a4Z a8Y a6S; have aV9 := am_ aUI; have aNY := am_ aRO; clear aUI aRO; replace bHL := eq_true bHL; replace bM1 := eq_true bM1; have H := gY.out; clear gY
      by_cases c9 : c1P = true
      ·subst c9
       rw [if_pos rfl] at H; have H' := am_ H; clear H
       go_wp2_with (first | ((with_reducible refine aAa (f := 93) rfl ?_); refine aBh (some 23) Tryz.func93 #[.agg #[.int .i64 ((aAh aQ aC).f0), .int .i64 ((aAh aQ aC).f1), .int .i64 ((aAh aQ aC).f2.f0), .int .i64 ((aAh aQ aC).f2.f1), .string ((aAh aQ aC).f2.f2), .string ((aAh aQ aC).f3), .slice b8N ((aAh aQ aC).f4).length b8T], .int .i64 (wrap64 (a1 - 1))] ?_; (with_reducible refine (ih k1 (by have := jK.out; omega) ((aAh aQ aC).f0) ((aAh aQ aC).f1) ((aAh aQ aC).f2.f0) ((aAh aQ aC).f2.f1) ((aAh aQ aC).f2.f2) ((aAh aQ aC).f3) _ _ ((aAh aQ aC).f4) (wrap64 (a1 - 1)) true _ ?fM ?fO A8.out).mono ?_); (case fM => exact cb_ aV9 HB); (case fO => exact aNY.out); rintro e jI ⟨rfl, hb⟩; refine ⟨_, rfl, ?_⟩; replace iO := aAt iO hb; replace HB := bs_ hb; (try clear hb)))
       go_roundg k1
       case measure => have := jK.out; omega
       case rel => exact ⟨(wrap64 (aC + 1)), rs_, H', ⟨by have := jK.out; omega⟩, ⟨aBx iO.out⟩, ⟨bb_⟩⟩
      ·replace c9 := Bool.eq_false_iff.mpr c9
       subst c9; replace H := aZf H; obtain rfl := Option.some.inj H
       go_wp2_with (first | ((with_reducible refine aAa (f := 93) rfl ?_); refine aBh (some 23) Tryz.func93 #[.agg #[.int .i64 ((aAh aQ aC).f0), .int .i64 ((aAh aQ aC).f1), .int .i64 ((aAh aQ aC).f2.f0), .int .i64 ((aAh aQ aC).f2.f1), .string ((aAh aQ aC).f2.f2), .string ((aAh aQ aC).f3), .slice b8N ((aAh aQ aC).f4).length b8T], .int .i64 (wrap64 (a1 - 1))] ?_; (with_reducible refine (ih k1 (by have := jK.out; omega) ((aAh aQ aC).f0) ((aAh aQ aC).f1) ((aAh aQ aC).f2.f0) ((aAh aQ aC).f2.f1) ((aAh aQ aC).f2.f2) ((aAh aQ aC).f3) _ _ ((aAh aQ aC).f4) (wrap64 (a1 - 1)) false _ ?fM ?fO A8.out).mono ?_); (case fM => exact cb_ aV9 HB); (case fO => exact aNY.out); rintro e jI ⟨rfl, hb⟩; refine ⟨_, rfl, ?_⟩; replace iO := aAt iO hb; replace HB := bs_ hb; (try clear hb)))
       go_ret
       exact ⟨er_, bb_⟩
     ·rw [if_neg c7] at H
      exact nn_ H
    ·rw [if_neg c6] at H
     have mY := decide_eq_false c6; clear c6; have bZB := am_ H; clear H; obtain ⟨pX, pU, rQ, BZ, CW, BN, DK, pJ, pR, rR, BJ, DC, BH, CQ⟩ := b7_ iO
     go_upto_region 8 with (fail)
     go_cut [6] (fun v6 wc => ∃ (kq : Nat) (a0Z : Bool), v6 = .bool a0Z ∧ Aside0 (dD.j1 kq a0Z aA aD aH aK aJ aI aQ = some r) ∧ Aside0 (kq ≤ k1) ∧ Aside0 (wc.heap[b9P]? = some (.cells #[.int .i64 aA, .int .i64 aD, .int .i64 aH, .int .i64 aK, .string aJ, .string aI, (.slice dY aQ.length dR)] 39 (0, 0))) ∧ Aside0 (Below w.heap.size w wc))
     case first =>
      have H := bZB.out; clear bZB
      by_cases c16 : aD = 0
      ·rw [if_pos c16] at H
       have GY : (aD == 0) = true := beq_iff_eq.mpr c16; have aIL : (aD != 0) = false := bne_eq_false_iff_eq.mpr c16; clear c16; (first | rw [GY] | (simp only [aCj, aCw]; rw [GY]) | skip); have H' := am_ H; clear H; obtain ⟨uE, sJ, vV, BQ, DN, D7, C9, tL, uF, vS, BP, DU, CS, BU⟩ := b7_ iO
       go_wp2
       go_meet
       case rel => exact ⟨_, ((aH == 0 && (aK == 0 && (aJ.toList == ([] : List UInt8))))), rs_, H', ⟨by have := jK.out; first | omega | exact Nat.le_refl _⟩, ⟨aBx iO.out⟩, ⟨bb_⟩⟩
      ·rw [if_neg c16] at H
       have GY : (aD == 0) = false := beq_eq_false_iff_ne.mpr c16; have aIL : (aD != 0) = true := bne_iff_ne.mpr c16; (first | rw [GY] | (simp only [aCj, aCw]; rw [GY]) | skip); have H' := am_ H; clear H; obtain ⟨tY, tJ, yJ, GR, FB, G7, GL, tK, sO, yP, F7, FQ, F8, GH⟩ := b7_ iO
       go_wp2
       go_meet
       case rel => exact ⟨_, (false), rs_, H', ⟨by have := jK.out; first | omega | exact Nat.le_refl _⟩, ⟨aBx iO.out⟩, ⟨bb_⟩⟩
     case rest =>
      clear bZB; (try clear c1); (try clear c2); (try clear p2); (try clear q2); (try clear hx2); (try clear c3); (try clear fC); (try clear c6); (try clear mY); (try clear p6); (try clear c7); (try clear iV); (try clear c9); (try clear c16); (try clear GY); (try clear aIL); (try clear lN lL nI DD BX DI D8); (try clear uI tF xS GK FY FZ GJ); (try clear pX pU rQ BZ CW BN DK); (try clear uE sJ vV BQ DN D7 C9); (try clear tY tJ yJ GR FB G7 GL); (try clear lM lJ nD DF CU CE CV); (try clear uA sG xW FV GA G5 FN); (try clear pJ pR rR BJ DC BH CQ); (try clear tL uF vS BP DU CS BU); (try clear tK sO yP F7 FQ F8 GH); (try clear a2X); (try clear a4U); (try clear aAX); (try clear a4W); (try clear a4Z); (try clear a8Y); (try clear a6S); (try clear p2); (try clear bHL); (try clear bM1); obtain ⟨kq, a0Z, rfl, HA, dC7, iO, HB⟩ := hcut
      cases kq with
      | zero => exact absurd HA.out (by simp [dD.j1])
      | succ d34 =>
       have H := HA.out; clear HA; simp only [dD.j1] at H
       by_cases c19 : aA = 0
       ·rw [if_pos c19] at H
        have U4 : (aA == 0) = true := beq_iff_eq.mpr c19; have aEB : (aA != 0) = false := bne_eq_false_iff_eq.mpr c19; clear c19; replace H := aBp H; obtain ⟨bRZ, b8G, H⟩ := H
        try dsimp only at H
        have BB := am_ b8G; clear b8G
        by_cases c21 : bRZ = true
        ·subst c21
         rw [if_pos rfl] at H
         by_cases NK : (aH == 0 && (aK == 0 && (aJ.toList == ([] : List UInt8)))) = true
         ·rw [if_pos NK] at H
          have YV : (aH == 0 && (aK == 0 && (aJ.toList == ([] : List UInt8)))) = true := NK; (try (have cBH : (aH == 0 && (aK == 0 && (aJ.toList.isEmpty))) = true := by simpa using YV)); (try (have b6B : decide (aH = 0 && (aK == 0 && (aJ.toList == ([] : List UInt8)))) = true := by simpa using NK)); (try (have c4E : (aH == 0 && (aK == 0 && (aJ.toList == ([] : List UInt8)))) = true := by simpa using NK)); clear NK
          by_cases c23 : aI.toList = ([] : List UInt8)
          ·rw [if_pos c23] at H
           have b9N : (aI.toList == ([] : List UInt8)) = true := beq_iff_eq.mpr c23; have b67 : (aI.toList != ([] : List UInt8)) = false := bne_eq_false_iff_eq.mpr c23; clear c23; obtain rfl := Option.some.inj H; obtain ⟨SC, OA, PM, V8, UR, WA, VP, QW, P6, PN, XK, V7, UZ, VR⟩ := b7_ iO
           go_wp2_with (first | ((with_reducible refine aAa (f := 50) rfl ?_); refine aBh (some 40) Tryz.func50 #[.int .i64 aD, .int .i64 0, .int .i64 11] ?_; (with_reducible refine (bN.calls _ _ _ _ _ BB.out).mono ?_); rintro e w' ⟨rfl, ⟨nd, rfl⟩⟩; refine ⟨_, rfl, ?_⟩))
           go_ret
           exact ⟨er_, bb_⟩
          ·rw [if_neg c23] at H
           have b9N : (aI.toList == ([] : List UInt8)) = false := beq_eq_false_iff_ne.mpr c23; have b67 : (aI.toList != ([] : List UInt8)) = true := bne_iff_ne.mpr c23; obtain rfl := Option.some.inj H; obtain ⟨uG, uH, vI, FP, F9, GN, FW, sI, tO, vQ, G8, GI, F6, FL⟩ := b7_ iO
           go_wp2_with (first | ((with_reducible refine aAa (f := 50) rfl ?_); refine aBh (some 40) Tryz.func50 #[.int .i64 aD, .int .i64 0, .int .i64 11] ?_; (with_reducible refine (bN.calls _ _ _ _ _ BB.out).mono ?_); rintro e w' ⟨rfl, ⟨nd, rfl⟩⟩; refine ⟨_, rfl, ?_⟩))
           go_ret
           exact ⟨er_, bb_⟩
         ·rw [if_neg NK] at H
          (have YV : (aH == 0 && (aK == 0 && (aJ.toList == ([] : List UInt8)))) = false := by simpa using NK); (try (have cBH : (aH == 0 && (aK == 0 && (aJ.toList.isEmpty))) = false := by simpa using YV)); (try (have b6B : decide (aH = 0 && (aK == 0 && (aJ.toList == ([] : List UInt8)))) = false := by simpa using NK)); (try (have c4E : (aH == 0 && (aK == 0 && (aJ.toList == ([] : List UInt8)))) = false := by simpa using NK)); (try (have dA7 : ¬ (aH = 0 && (aK == 0 && (aJ.toList == ([] : List UInt8)))) := by simpa using NK)); clear NK; obtain rfl := Option.some.inj H; obtain ⟨XE, WS, a7V, a2C, a4A, a7T, a8H, UU, UK, a6F, a3Z, a5A, a7P, a9K⟩ := b7_ iO
          go_wp2_with (first | ((with_reducible refine aAa (f := 50) rfl ?_); refine aBh (some 40) Tryz.func50 #[.int .i64 aD, .int .i64 0, .int .i64 11] ?_; (with_reducible refine (bN.calls _ _ _ _ _ BB.out).mono ?_); rintro e w' ⟨rfl, ⟨nd, rfl⟩⟩; refine ⟨_, rfl, ?_⟩))
          go_ret
          exact ⟨er_, bb_⟩
        ·replace c21 := Bool.eq_false_iff.mpr c21
         subst c21; replace H := aZf H; obtain rfl := Option.some.inj H; obtain ⟨aM9, aU1, aNN, bFD, bCF, bDJ, bH5, aRK, aRF, aLB, bK9, bDP, bN4, bF3⟩ := b7_ iO
         go_wp2_with (first | ((with_reducible refine aAa (f := 50) rfl ?_); refine aBh (some 40) Tryz.func50 #[.int .i64 aD, .int .i64 0, .int .i64 11] ?_; (with_reducible refine (bN.calls _ _ _ _ _ BB.out).mono ?_); rintro e w' ⟨rfl, ⟨nd, rfl⟩⟩; refine ⟨_, rfl, ?_⟩))
         go_ret
         exact ⟨er_, bb_⟩
       ·rw [if_neg c19] at H
        have U4 : (aA == 0) = false := beq_eq_false_iff_ne.mpr c19; have aEB : (aA != 0) = true := bne_iff_ne.mpr c19
        by_cases c28 : aA = 1
        ·rw [if_pos c28] at H
         have YS : (aA == 1) = true := beq_iff_eq.mpr c28; have aBZ : (aA != 1) = false := bne_eq_false_iff_eq.mpr c28; clear c28; replace H := aBp H; obtain ⟨bXK, aFO, H⟩ := H
         try dsimp only at H
         have A29 := am_ aFO; clear aFO
         by_cases c30 : bXK = true
         ·subst c30
          rw [if_pos rfl] at H
          by_cases c31 : aD = 0
          ·rw [if_pos c31] at H
           have aMK : (aD == 0) = true := beq_iff_eq.mpr c31; have c7M : (aD != 0) = false := bne_eq_false_iff_eq.mpr c31; clear c31
           by_cases c32 : aI.toList = ([] : List UInt8)
           ·rw [if_pos c32] at H
            have c6M : (aI.toList == ([] : List UInt8)) = true := beq_iff_eq.mpr c32; have cG8 : (aI.toList != ([] : List UInt8)) = false := bne_eq_false_iff_eq.mpr c32; clear c32; obtain rfl := Option.some.inj H; obtain ⟨aU3, aOW, aST, aV0, aOQ, aL5, aO6, aTE, aY3, aR9, aOM, aML, aP8, aSR⟩ := b7_ iO
            go_wp2_with (first | ((with_reducible refine aAa (f := 112) rfl ?_); refine aBh (some 62) Tryz.func112 #[.agg #[.int .i64 aH, .int .i64 aK, .string aJ]] ?_; (with_reducible refine (j5.calls _ _ _ _ _ A29.out).mono ?_); rintro e w34 ⟨rfl, hb⟩; refine ⟨_, rfl, ?_⟩; replace iO := aAt iO hb; replace HB := bs_ hb; (try clear hb); obtain ⟨aA5, a8P, a4R, a4H, aBU, a7S, aAY, a7M, a7J, a3V, a5V, a90, a3S, a7L⟩ := b7_ iO))
            go_ret
            exact ⟨er_, bb_⟩
           ·rw [if_neg c32] at H
            have c6M : (aI.toList == ([] : List UInt8)) = false := beq_eq_false_iff_ne.mpr c32; have cG8 : (aI.toList != ([] : List UInt8)) = true := bne_iff_ne.mpr c32; obtain rfl := Option.some.inj H; obtain ⟨a9A, a9B, a3Q, aT2, aRV, aNZ, aQZ, aAF, a3X, a2K, aL4, aK7, aM5, aKV⟩ := b7_ iO
            go_wp2_with (first | ((with_reducible refine aAa (f := 112) rfl ?_); refine aBh (some 62) Tryz.func112 #[.agg #[.int .i64 aH, .int .i64 aK, .string aJ]] ?_; (with_reducible refine (j5.calls _ _ _ _ _ A29.out).mono ?_); rintro e w37 ⟨rfl, hb⟩; refine ⟨_, rfl, ?_⟩; replace iO := aAt iO hb; replace HB := bs_ hb; (try clear hb); obtain ⟨cPW, cO0, cUS, cVF, cW8, d1G, d07, cVU, cSF, cWR, cZ0, cTK, cNT, d15⟩ := b7_ iO))
            go_ret
            exact ⟨er_, bb_⟩
          ·rw [if_neg c31] at H
           have aMK : (aD == 0) = false := beq_eq_false_iff_ne.mpr c31; have c7M : (aD != 0) = true := bne_iff_ne.mpr c31; obtain rfl := Option.some.inj H; obtain ⟨aO0, aVE, aV2, aUV, aSJ, aLY, aUN, aOZ, aSD, aQ9, aX7, aY8, aTY, aKN⟩ := b7_ iO
           go_wp2_with (first | ((with_reducible refine aAa (f := 112) rfl ?_); refine aBh (some 62) Tryz.func112 #[.agg #[.int .i64 aH, .int .i64 aK, .string aJ]] ?_; (with_reducible refine (j5.calls _ _ _ _ _ A29.out).mono ?_); rintro e w40 ⟨rfl, hb⟩; refine ⟨_, rfl, ?_⟩; replace iO := aAt iO hb; replace HB := bs_ hb; (try clear hb); obtain ⟨cMV, cNX, cZI, d01, cQG, cVB, cOY, cY4, cXD, d0V, cYK, cTE, cO7, cOX⟩ := b7_ iO))
           go_ret
           exact ⟨er_, bb_⟩
         ·replace c30 := Bool.eq_false_iff.mpr c30
          subst c30; replace H := aZf H; obtain rfl := Option.some.inj H; obtain ⟨bM6, bFJ, bC6, bMT, bHD, bJZ, bO8, bGA, bMJ, bIV, bMG, bKT, bI5, bH2⟩ := b7_ iO
          go_wp2_with (first | ((with_reducible refine aAa (f := 112) rfl ?_); refine aBh (some 62) Tryz.func112 #[.agg #[.int .i64 aH, .int .i64 aK, .string aJ]] ?_; (with_reducible refine (j5.calls _ _ _ _ _ A29.out).mono ?_); rintro e w43 ⟨rfl, hb⟩; refine ⟨_, rfl, ?_⟩; replace iO := aAt iO hb; replace HB := bs_ hb; (try clear hb)))
          go_ret
          exact ⟨er_, bb_⟩
        ·rw [if_neg c28] at H
         have YS : (aA == 1) = false := beq_eq_false_iff_ne.mpr c28; have aBZ : (aA != 1) = true := bne_iff_ne.mpr c28
         by_cases c44 : aA = 2
         ·rw [if_pos c44] at H
          have bP4 : (aA == 2) = true := beq_iff_eq.mpr c44; have bR1 : (aA != 2) = false := bne_eq_false_iff_eq.mpr c44; clear c44
          by_cases c45 : a0Z = true
          ·subst c45
           rw [if_pos rfl] at H
           by_cases c46 : (aQ.length : Int) = 2
           ·rw [if_pos c46] at H
            have cBK : ((aQ.length : Int) == 2) = true := beq_iff_eq.mpr c46; have cMB : ((aQ.length : Int) != 2) = false := bne_eq_false_iff_eq.mpr c46; clear c46; obtain ⟨d5T, aF2⟩ : ∃ y_ : List ByteArray, y_ = (([(⟨#[43]⟩ : ByteArray), (⟨#[45]⟩ : ByteArray), (⟨#[42]⟩ : ByteArray), (⟨#[47]⟩ : ByteArray), (⟨#[61]⟩ : ByteArray), (⟨#[60]⟩ : ByteArray), (⟨#[126]⟩ : ByteArray), (⟨#[97, 110, 100]⟩ : ByteArray), (⟨#[111, 114]⟩ : ByteArray)] : List ByteArray)) := ⟨_, rfl⟩; (replace H : ((iJ.f d34 d5T aI).bind fun bGD => (some bGD)) = some r := by first | (rw [aF2]; with_reducible exact H) | (have jC := (Option.bind_some _ _).symm.trans H; rw [aF2]; with_reducible exact jC) | (have jC := (Option.bind_some _ _).symm.trans H; with_reducible exact jC) | with_reducible exact H | (rw [aF2]; exact H) | exact H); have bQ2 := am_ aF2; clear aF2; replace H := aBp H; obtain ⟨bGD, cA3, H⟩ := H
            try dsimp only at H
            have A47 := am_ cA3; clear cA3; obtain rfl := Option.some.inj H; obtain ⟨bF6, bE7, bJP, bH3, bKI, bBC, bK3, bCX, bJ4, bNS, bB6, bGQ, bMN, bJE⟩ := b7_ iO
            go_wp2_with (first | ((with_reducible refine aAc (N := 89) rfl ?_); (try (refine aAn (by rfl) ?_; dsimp only)); refine Kd.aPq Kd.string _ 9 ?hg (N := 89) ?hd (xs := ([(⟨#[43]⟩ : ByteArray), (⟨#[45]⟩ : ByteArray), (⟨#[42]⟩ : ByteArray), (⟨#[47]⟩ : ByteArray), (⟨#[61]⟩ : ByteArray), (⟨#[60]⟩ : ByteArray), (⟨#[126]⟩ : ByteArray), (⟨#[97, 110, 100]⟩ : ByteArray), (⟨#[111, 114]⟩ : ByteArray)] : List ByteArray)) (inner := [.string (⟨#[43]⟩ : ByteArray), .string (⟨#[45]⟩ : ByteArray), .string (⟨#[42]⟩ : ByteArray), .string (⟨#[47]⟩ : ByteArray), .string (⟨#[61]⟩ : ByteArray), .string (⟨#[60]⟩ : ByteArray), .string (⟨#[126]⟩ : ByteArray), .string (⟨#[97, 110, 100]⟩ : ByteArray), .string (⟨#[111, 114]⟩ : ByteArray)]) (ok := fun _ => True) (okp := fun _ => True) ?hr ?hp (fun _ hk => hk) trivial (Below.refl _ _) (Nat.le_refl _) (by simp) ?_; (case hd => rfl); (case hg => rfl); (case hr => first | (go_simp; done) | (go_simp; rfl)); (case hp => exact (aBt.one (show Kd.M Kd.string _ _ _ (⟨#[43]⟩ : ByteArray) [.string (⟨#[43]⟩ : ByteArray)] from rfl) (aBt.one (show Kd.M Kd.string _ _ _ (⟨#[45]⟩ : ByteArray) [.string (⟨#[45]⟩ : ByteArray)] from rfl) (aBt.one (show Kd.M Kd.string _ _ _ (⟨#[42]⟩ : ByteArray) [.string (⟨#[42]⟩ : ByteArray)] from rfl) (aBt.one (show Kd.M Kd.string _ _ _ (⟨#[47]⟩ : ByteArray) [.string (⟨#[47]⟩ : ByteArray)] from rfl) (aBt.one (show Kd.M Kd.string _ _ _ (⟨#[61]⟩ : ByteArray) [.string (⟨#[61]⟩ : ByteArray)] from rfl) (aBt.one (show Kd.M Kd.string _ _ _ (⟨#[60]⟩ : ByteArray) [.string (⟨#[60]⟩ : ByteArray)] from rfl) (aBt.one (show Kd.M Kd.string _ _ _ (⟨#[126]⟩ : ByteArray) [.string (⟨#[126]⟩ : ByteArray)] from rfl) (aBt.one (show Kd.M Kd.string _ _ _ (⟨#[97, 110, 100]⟩ : ByteArray) [.string (⟨#[97, 110, 100]⟩ : ByteArray)] from rfl) (aBt.one (show Kd.M Kd.string _ _ _ (⟨#[111, 114]⟩ : ByteArray) [.string (⟨#[111, 114]⟩ : ByteArray)] from rfl) (aBt.none _ _))))))))))); intro dDZ w49 b7R hb DZ j4; clear DZ j4; (first | rw [← bQ2.out] at b7R | (simp only [Int.reduceToNat] at b7R; rw [← bQ2.out] at b7R)); have b22 := am_ (Kd.aBc b7R (aAj bb_)); replace iO := aAt iO hb; replace HB := bs_ hb; clear hb b7R; obtain ⟨a5Q, a9L, aUU, aW8, aQK, aSG, aUJ, a2B, a3K, aO3, aQB, aWR, aNO, aXV⟩ := b7_ iO; obtain ⟨d2G, d5E, c0D⟩ := Kd.aBj b22.out; subst c0D) | (go_at_call 113; (with_reducible refine (iJ.calls _ _ _ _ _ _ _ (ck_ (Kd.aAr b22.out).2.2) ((Kd.aAr b22.out).2.1) A47.out).mono ?_); rintro e w' ⟨rfl, ⟨nd, rfl⟩⟩))
            go_ret
            exact ⟨er_, bb_⟩
           ·rw [if_neg c46] at H
            have cBK : ((aQ.length : Int) == 2) = false := beq_eq_false_iff_ne.mpr c46; have cMB : ((aQ.length : Int) != 2) = true := bne_iff_ne.mpr c46; obtain rfl := Option.some.inj H; obtain ⟨bKS, bOK, bMU, bIE, bDX, bBH, bDT, bCK, bG1, bB8, bHP, bD8, bIU, bGY⟩ := b7_ iO
            go_wp2
            go_ret
            exact ⟨er_, bb_⟩
          ·replace c45 := Bool.eq_false_iff.mpr c45
           subst c45; replace H := aZf H; obtain rfl := Option.some.inj H; obtain ⟨aMD, aS2, bBU, bCI, bL0, bNX, bCY, aX1, aUH, bAW, bLN, bLH, bII, bEP⟩ := b7_ iO
           go_wp2
           go_ret
           exact ⟨er_, bb_⟩
         ·rw [if_neg c44] at H
          have bP4 : (aA == 2) = false := beq_eq_false_iff_ne.mpr c44; have bR1 : (aA != 2) = true := bne_iff_ne.mpr c44
          by_cases c55 : aA = 3
          ·rw [if_pos c55] at H
           have cGT : (aA == 3) = true := beq_iff_eq.mpr c55; have cK5 : (aA != 3) = false := bne_eq_false_iff_eq.mpr c55; clear c55
           by_cases c56 : a0Z = true
           ·subst c56
            rw [if_pos rfl] at H
            by_cases c57 : aI.toList = ([] : List UInt8)
            ·rw [if_pos c57] at H
             have b2L : (aI.toList == ([] : List UInt8)) = true := beq_iff_eq.mpr c57; have b24 : (aI.toList != ([] : List UInt8)) = false := bne_eq_false_iff_eq.mpr c57; clear c57; obtain rfl := Option.some.inj H; obtain ⟨cND, cVE, cNE, cOI, cVA, cMS, cO4, cUU, cQV, cPX, cZJ, cWQ, cRZ, cUD⟩ := b7_ iO
             go_wp2
             go_ret
             exact ⟨er_, bb_⟩
            ·rw [if_neg c57] at H
             have b2L : (aI.toList == ([] : List UInt8)) = false := beq_eq_false_iff_ne.mpr c57; have b24 : (aI.toList != ([] : List UInt8)) = true := bne_iff_ne.mpr c57; obtain rfl := Option.some.inj H; obtain ⟨aM6, aUR, aR0, aSM, aQR, aXT, aLR, aN3, aLJ, aUX, aQG, aPZ, aLM, aQO⟩ := b7_ iO
             go_wp2
             go_ret
             exact ⟨er_, bb_⟩
           ·replace c56 := Bool.eq_false_iff.mpr c56
            subst c56; replace H := aZf H; obtain rfl := Option.some.inj H; obtain ⟨bO5, bHS, bJX, bJK, bO9, bHU, bKG, bBF, bH0, bHY, bCS, bNK, bCD, bBZ⟩ := b7_ iO
            go_wp2
            go_ret
            exact ⟨er_, bb_⟩
          ·rw [if_neg c55] at H
           have cGT : (aA == 3) = false := beq_eq_false_iff_ne.mpr c55; have cK5 : (aA != 3) = true := bne_iff_ne.mpr c55
           by_cases c61 : aA = 4
           ·rw [if_pos c61] at H
            have cKQ : (aA == 4) = true := beq_iff_eq.mpr c61; have c7X : (aA != 4) = false := bne_eq_false_iff_eq.mpr c61; clear c61
            by_cases c62 : a0Z = true
            ·subst c62
             rw [if_pos rfl] at H
             by_cases c63 : aI.toList = ([] : List UInt8)
             ·rw [if_pos c63] at H
              have c9B : (aI.toList == ([] : List UInt8)) = true := beq_iff_eq.mpr c63; have cI6 : (aI.toList != ([] : List UInt8)) = false := bne_eq_false_iff_eq.mpr c63; clear c63; obtain rfl := Option.some.inj H; obtain ⟨bHK, bID, bLA, bN8, bK2, bCA, bK1, bBI, bG8, bHR, bB0, bH9, bHE, bHH⟩ := b7_ iO
              go_wp2
              go_ret
              exact ⟨er_, bb_⟩
             ·rw [if_neg c63] at H
              have c9B : (aI.toList == ([] : List UInt8)) = false := beq_eq_false_iff_ne.mpr c63; have cI6 : (aI.toList != ([] : List UInt8)) = true := bne_iff_ne.mpr c63; obtain rfl := Option.some.inj H; obtain ⟨bG2, bDR, bKW, bDH, bNW, bLL, bLW, bGL, bH6, bIM, bFO, bOC, bF2, bJO⟩ := b7_ iO
              go_wp2
              go_ret
              exact ⟨er_, bb_⟩
            ·replace c62 := Bool.eq_false_iff.mpr c62
             subst c62; replace H := aZf H; obtain rfl := Option.some.inj H; obtain ⟨aQL, aWV, aMZ, aPY, aWW, aS0, aRD, aT0, aRW, aN7, aWO, aOF, aVJ, aU8⟩ := b7_ iO
             go_wp2
             go_ret
             exact ⟨er_, bb_⟩
           ·rw [if_neg c61] at H
            have cKQ : (aA == 4) = false := beq_eq_false_iff_ne.mpr c61; have c7X : (aA != 4) = true := bne_iff_ne.mpr c61; obtain rfl := Option.some.inj H; obtain ⟨d0P, cSV, cO5, cVO, cSI, cXW, cNS, d0S, cYY, cZG, d1S, cP1, cTC, cOC⟩ := b7_ iO
            go_wp2
            go_ret
            exact ⟨er_, bb_⟩
def oI.f (k : Nat) (aA aD : Int) (aH aK : Int) (aJ aI : ByteArray) (aQ : List S39) : Option Bool := (dD.f k aA aD aH aK aJ aI aQ 12).bind fun bK4 => (some bK4)
theorem oI.calls (k : Nat) (aA aD : Int) (aH aK : Int) (aJ aI : ByteArray) (dY : Option Addr) (dR : Nat) (aQ : List S39) (r : Bool) (w : World) (gH : Kd.C jX w dY aQ.length aQ) (gI : aQ.length ≤ dR) (h : oI.f k aA aD aH aK aJ aI aQ = some r) :
  Calls Tryz.prog 70 #[.agg #[.int .i64 aA, .int .i64 aD, .int .i64 aH, .int .i64 aK, .string aJ, .string aI, .slice dY aQ.length dR]] w fun e w' => e = .returned (.bool r) ∧ Below w.heap.size w w' := by
 have zH := Tryz.underlying39
 have jZ := am_ gH
 have lG := am_ gI
 clear gH gI
 have HB := am_ (Below.refl w.heap.size w)
 have H : ((dD.f k aA aD aH aK aJ aI aQ 12).bind fun bK4 => (some bK4)) = some r := h
 clear h
 replace H := aBp H
 obtain ⟨bK4, BB, H⟩ := H
 try dsimp only at H
 have A2 := am_ BB
 clear BB
 obtain rfl := Option.some.inj H
 go_enter Tryz.func70, Tryz.ntmps70
 go_wp2_with (first | ((with_reducible refine aAc (N := 1) rfl ?_); refine bx_ 1 #[.int .i64 aA, .int .i64 aD, .int .i64 aH, .int .i64 aK, .string aJ, .string aI, .slice dY aQ.length dR] 39 ?_; intro d9H hg w3 hbox hb; have b1J := am_ (hbox); have d8L := gw_ hg; replace HB := bs_ hb; clear hb hbox hg; obtain ⟨b2V, b7B, b34, bZ5, bTG, bX2, bYW, b86, b1V, b77, bYI, bVL, bRE, bY3⟩ := b7_ b1J) | ((with_reducible refine aAa (f := 93) rfl ?_); refine aBh (some 4) Tryz.func93 #[.agg #[.int .i64 aA, .int .i64 aD, .int .i64 aH, .int .i64 aK, .string aJ, .string aI, .slice dY aQ.length dR], .int .i64 12] ?_; (with_reducible refine (dD.calls _ _ _ _ _ _ _ _ _ _ _ _ _ (cb_ jZ HB) lG.out A2.out).mono ?_); rintro e w5 ⟨rfl, hb⟩; refine ⟨_, rfl, ?_⟩; replace b1J := aAt b1J hb; replace HB := bs_ hb; (try clear hb)))
 go_ret
 exact ⟨er_, bb_⟩

def jM.f (k : Nat) (aA aD : Int) (aH aK : Int) (aJ aI : ByteArray) (aQ : List S39) (a1 : Int) : Option Bool := (bQ.f k aA aD aH aK aJ aI aQ).bind fun wL => ((oI.f k aA aD aH aK aJ aI aQ).bind fun b29 => (if b29 = true then (if (wL.length : Int) = 0 then (some true) else (if 0 ≤ (wrap64 ((wL.length : Int) - 1)) then (if (wrap64 ((wL.length : Int) - 1)) < (wL.length : Int) then (some (decide ((rd wL (wrap64 ((wL.length : Int) - 1))) < a1))) else (none)) else (none))) else (some false)))
theorem jM.calls (k : Nat) (aA aD : Int) (aH aK : Int) (aJ aI : ByteArray) (dY : Option Addr) (dR : Nat) (aQ : List S39) (a1 : Int) (r : Bool) (w : World) (gH : Kd.C jX w dY aQ.length aQ) (gI : aQ.length ≤ dR) (h : jM.f k aA aD aH aK aJ aI aQ a1 = some r) :
  Calls Tryz.prog 48 #[.agg #[.int .i64 aA, .int .i64 aD, .int .i64 aH, .int .i64 aK, .string aJ, .string aI, .slice dY aQ.length dR], .int .i64 a1] w fun e w' => e = .returned (.bool r) ∧ Below w.heap.size w w' := by
 have zH := Tryz.underlying39
 have jZ := am_ gH
 have lG := am_ gI
 clear gH gI
 have HB := am_ (Below.refl w.heap.size w)
 have H : ((bQ.f k aA aD aH aK aJ aI aQ).bind fun wL => ((oI.f k aA aD aH aK aJ aI aQ).bind fun b29 => (if b29 = true then (if (wL.length : Int) = 0 then (some true) else (if 0 ≤ (wrap64 ((wL.length : Int) - 1)) then (if (wrap64 ((wL.length : Int) - 1)) < (wL.length : Int) then (some (decide ((rd wL (wrap64 ((wL.length : Int) - 1))) < a1))) else (none)) else (none))) else (some false)))) = some r := h
 clear h
 replace H := aBp H
 obtain ⟨wL, wN, H⟩ := H
 try dsimp only at H
 have A3 := am_ wN
 clear wN
 replace H := aBp H
 obtain ⟨b29, N9, H⟩ := H
 try dsimp only at H
 have A4 := am_ N9
 clear N9
 by_cases c5 : b29 = true
 ·subst c5
  rw [if_pos rfl] at H
  by_cases c6 : (wL.length : Int) = 0
  ·rw [if_pos c6] at H
   have mY : ((wL.length : Int) == 0) = true := beq_iff_eq.mpr c6; have aK0 : ((wL.length : Int) != 0) = false := bne_eq_false_iff_eq.mpr c6; clear c6; obtain rfl := Option.some.inj H
   go_enter Tryz.func48, Tryz.ntmps48
   go_wp2_with (first | ((with_reducible refine aAc (N := 2) rfl ?_); (try (refine aAn (by rfl) ?_; dsimp only)); refine bx_ 2 #[.int .i64 aA, .int .i64 aD, .int .i64 aH, .int .i64 aK, .string aJ, .string aI, .slice dY aQ.length dR] 39 ?_; intro bR3 hg w7 hbox hb; have rY := am_ (hbox); have b3Z := gw_ hg; replace HB := bs_ hb; clear hb hbox hg; obtain ⟨qI, qG, xA, AQ, zB, zZ, AC, qF, qH, xD, zU, yU, zQ, zI⟩ := b7_ rY) | ((with_reducible refine aAa (f := 69) rfl ?_); refine aBh (some 7) Tryz.func69 #[.agg #[.int .i64 aA, .int .i64 aD, .int .i64 aH, .int .i64 aK, .string aJ, .string aI, .slice dY aQ.length dR]] ?_; (with_reducible refine (bQ.calls _ _ _ _ _ _ _ _ _ _ _ _ (cb_ jZ HB) lG.out A3.out).mono ?_); rintro e w9 ⟨cL1, rfl, ho0, hb⟩; refine ⟨_, rfl, ?_⟩; have JI := am_ (Kd.aBc ho0 (aAj bb_)); replace rY := aAt rY hb; replace HB := bs_ hb; clear hb ho0; obtain ⟨lN, lL, nI, DD, BX, DI, D8, lM, lJ, nD, DF, CU, CE, CV⟩ := b7_ rY) | ((with_reducible refine aAa (f := 70) rfl ?_); refine aBh (some 9) Tryz.func70 #[.agg #[.int .i64 aA, .int .i64 aD, .int .i64 aH, .int .i64 aK, .string aJ, .string aI, .slice dY aQ.length dR]] ?_; (with_reducible refine (oI.calls _ _ _ _ _ _ _ _ _ _ _ _ (cb_ jZ HB) lG.out A4.out).mono ?_); rintro e jI ⟨rfl, hb⟩; refine ⟨_, rfl, ?_⟩; replace JI := am_ (Kd.aAs (rk_ JI.out) hb); replace rY := aAt rY hb; replace HB := bs_ hb; (try clear hb); obtain ⟨qZ, qN, H9⟩ := Kd.aBj JI.out; subst H9))
   go_ret
   exact ⟨er_, bb_⟩
  ·rw [if_neg c6] at H
   have mY : ((wL.length : Int) == 0) = false := beq_eq_false_iff_ne.mpr c6; have aK0 : ((wL.length : Int) != 0) = true := bne_iff_ne.mpr c6; (have dCA : ¬ (wL = []) := fun h_ => c6 (by rw [h_]; rfl)); obtain ⟨a5O, a1W⟩ : ∃ j_ : Int, (wrap64 ((wL.length : Int) - 1)) = j_ := ⟨_, rfl⟩; (replace H : (if 0 ≤ (a5O) then (if (a5O) < (wL.length : Int) then (some (decide ((rd wL (a5O)) < a1))) else (none)) else (none)) = some r := by first | (rw [a1W] at H; exact H) | (simp only [a1W] at H ⊢; exact H)); (try rw [a1W] at A3); (try rw [a1W] at A4); have d2V : (IntKind.i64.wrap ((wL.length : Int) - 1)) = a5O := (aCj _).trans a1W
   by_cases c14 : 0 ≤ (a5O)
   ·rw [if_pos c14] at H
    have ZK := decide_eq_true c14; clear c14
    by_cases c15 : (a5O) < (wL.length : Int)
    ·rw [if_pos c15] at H
     have YE := decide_eq_true c15; clear c15; obtain rfl := Option.some.inj H
     go_enter Tryz.func48, Tryz.ntmps48
     go_wp2_with (first | ((with_reducible refine aAc (N := 2) rfl ?_); (try (refine aAn (by rfl) ?_; dsimp only)); refine bx_ 2 #[.int .i64 aA, .int .i64 aD, .int .i64 aH, .int .i64 aK, .string aJ, .string aI, .slice dY aQ.length dR] 39 ?_; intro bR3 hg w16 hbox hb; have rY := am_ (hbox); have b3Z := gw_ hg; replace HB := bs_ hb; clear hb hbox hg; obtain ⟨uE, sJ, vV, BQ, DN, D7, C9, tL, uF, vS, BP, DU, CS, BU⟩ := b7_ rY) | ((with_reducible refine aAa (f := 69) rfl ?_); refine aBh (some 7) Tryz.func69 #[.agg #[.int .i64 aA, .int .i64 aD, .int .i64 aH, .int .i64 aK, .string aJ, .string aI, .slice dY aQ.length dR]] ?_; (with_reducible refine (bQ.calls _ _ _ _ _ _ _ _ _ _ _ _ (cb_ jZ HB) lG.out A3.out).mono ?_); rintro e w18 ⟨cL1, rfl, ho0, hb⟩; refine ⟨_, rfl, ?_⟩; have JI := am_ (Kd.aBc ho0 (aAj bb_)); replace rY := aAt rY hb; replace HB := bs_ hb; clear hb ho0; obtain ⟨yC, yG, yI, CK, C8, DL, CZ, xX, xR, yF, BO, BS, CR, CO⟩ := b7_ rY) | ((with_reducible refine aAa (f := 70) rfl ?_); refine aBh (some 9) Tryz.func70 #[.agg #[.int .i64 aA, .int .i64 aD, .int .i64 aH, .int .i64 aK, .string aJ, .string aI, .slice dY aQ.length dR]] ?_; (with_reducible refine (oI.calls _ _ _ _ _ _ _ _ _ _ _ _ (cb_ jZ HB) lG.out A4.out).mono ?_); rintro e w20 ⟨rfl, hb⟩; refine ⟨_, rfl, ?_⟩; replace JI := am_ (Kd.aAs (rk_ JI.out) hb); replace rY := aAt rY hb; replace HB := bs_ hb; (try clear hb); obtain ⟨cK7, cM1, bRC⟩ := Kd.aBj JI.out; subst bRC; have bVF : 0 ≤ ((a5O) : Int) := oa_; have c1Z : (a5O) < (wL.length : Int) := oa_; obtain ⟨d8W, e285, cMX⟩ := Kd.aCe (Kd.aAr JI.out).2.2 (a5O) bVF c1Z; cases e285; replace bVF := eq_true bVF; replace c1Z := eq_true c1Z))
     go_ret
     (exact ⟨by first | rfl | (simp [aBo, aBq] <;> rfl) | (simp only [← a1W]; first | rfl | (simp [aBo, aBq] <;> rfl)) | (simp [*, aBo, aBq] <;> rfl), by repeat (first | (with_reducible first | exact HB.out | apply aAi | apply aAo | apply aAm | refine aAk ?_ b3Z.out) | exact HB.out)⟩)
    ·rw [if_neg c15] at H
     exact nn_ H
   ·rw [if_neg c14] at H
    exact nn_ H
 ·replace c5 := Bool.eq_false_iff.mpr c5
  subst c5; replace H := aZf H; obtain rfl := Option.some.inj H
  go_enter Tryz.func48, Tryz.ntmps48
  go_wp2_with (first | ((with_reducible refine aAc (N := 2) rfl ?_); (try (refine aAn (by rfl) ?_; dsimp only)); refine bx_ 2 #[.int .i64 aA, .int .i64 aD, .int .i64 aH, .int .i64 aK, .string aJ, .string aI, .slice dY aQ.length dR] 39 ?_; intro bR3 hg w22 hbox hb; have rY := am_ (hbox); have b3Z := gw_ hg; replace HB := bs_ hb; clear hb hbox hg; obtain ⟨tC, sH, sQ, yO, yK, xO, yS, sK, sV, sS, xM, yQ, xK, yM⟩ := b7_ rY) | ((with_reducible refine aAa (f := 69) rfl ?_); refine aBh (some 7) Tryz.func69 #[.agg #[.int .i64 aA, .int .i64 aD, .int .i64 aH, .int .i64 aK, .string aJ, .string aI, .slice dY aQ.length dR]] ?_; (with_reducible refine (bQ.calls _ _ _ _ _ _ _ _ _ _ _ _ (cb_ jZ HB) lG.out A3.out).mono ?_); rintro e w24 ⟨cL1, rfl, ho0, hb⟩; refine ⟨_, rfl, ?_⟩; have JI := am_ (Kd.aBc ho0 (aAj bb_)); replace rY := aAt rY hb; replace HB := bs_ hb; clear hb ho0; obtain ⟨uG, uH, vI, FP, F9, GN, FW, sI, tO, vQ, G8, GI, F6, FL⟩ := b7_ rY) | ((with_reducible refine aAa (f := 70) rfl ?_); refine aBh (some 9) Tryz.func70 #[.agg #[.int .i64 aA, .int .i64 aD, .int .i64 aH, .int .i64 aK, .string aJ, .string aI, .slice dY aQ.length dR]] ?_; (with_reducible refine (oI.calls _ _ _ _ _ _ _ _ _ _ _ _ (cb_ jZ HB) lG.out A4.out).mono ?_); rintro e w26 ⟨rfl, hb⟩; refine ⟨_, rfl, ?_⟩; replace JI := am_ (Kd.aAs (rk_ JI.out) hb); replace rY := aAt rY hb; replace HB := bs_ hb; (try clear hb)))
  go_ret
  exact ⟨er_, bb_⟩

def iP.l0 : Nat → List S39 → Int → Int → Option Bool
 | 0, _, _, _ => none
 | k + 1, x0, x1, x5 => if x5 < (x0.length : Int) then (if 0 ≤ x5 then ((jM.f k ((aAh x0 x5).f0) ((aAh x0 x5).f1) ((aAh x0 x5).f2.f0) ((aAh x0 x5).f2.f1) ((aAh x0 x5).f2.f2) ((aAh x0 x5).f3) ((aAh x0 x5).f4) x1).bind fun c0S => (if c0S = true then (iP.l0 k x0 x1 (wrap64 (x5 + 1))) else (some false))) else (none)) else (some true)
def iP.f (k : Nat) (l0 : List S39) (a1 : Int) : Option Bool := iP.l0 k l0 a1 0
theorem iP.calls (k : Nat) (A0 : Option Addr) (c0 : Nat) (l0 : List S39) (a1 : Int) (r : Bool) (w : World) (hr0 : Kd.C jX w A0 l0.length l0) (hc0 : l0.length ≤ c0) (h : iP.f k l0 a1 = some r) :
  Calls Tryz.prog 49 #[.slice A0 l0.length c0, .int .i64 a1] w fun e w' => e = .returned (.bool r) ∧ Below w.heap.size w w' := by
 have zH := Tryz.underlying39
 have jY := am_ hr0
 have oQ := am_ hc0
 clear hr0 hc0
 have HB := am_ (Below.refl w.heap.size w)
 have H : (iP.l0 k l0 a1 0) = some r := h
 clear h
 have H' := am_ H
 clear H
 go_enter Tryz.func49, Tryz.ntmps49
 go_wp2
 go_loopg [5] k (fun kq v5 w' => ∃ (aC : Int), v5 = .int .i64 aC ∧ Aside0 (iP.l0 kq l0 a1 aC = some r) ∧ Aside0 (kq ≤ k) ∧ Aside0 (Below w.heap.size w w'))
 case atStart => exact ⟨(0), rs_, H', ⟨Nat.le_refl _⟩, ⟨bb_⟩⟩
 case round =>
  clear H'; (try clear p2); obtain ⟨aC, rfl, HA, jK, HB⟩ := hrel
  cases gk with
  | zero => exact absurd HA.out (by simp [iP.l0])
  | succ k1 =>
   have H := HA.out; clear HA; simp only [iP.l0] at H
   by_cases c3 : aC < (l0.length : Int)
   ·rw [if_pos c3] at H
    have fC := decide_eq_true c3; clear c3
    by_cases c4 : 0 ≤ aC
    ·rw [if_pos c4] at H
     have iB := decide_eq_true c4; clear c4; replace H := aBp H; obtain ⟨c0S, U9, H⟩ := H
     try dsimp only at H
     have A5 := am_ U9; clear U9; have gY := am_ H; clear H; (have bYU : 0 ≤ (aC : Int) := oa_); (have bV5 : aC < (l0.length : Int) := oa_); obtain ⟨dAY, bA4, b1L, d28, aKS, aRH, aKP, aU2, aUQ, aX2, aRJ, aTJ, aME⟩ := I5 jY.out aC bYU bV5; cases d28; obtain ⟨aKS, aRH, aKP, aU2, aUQ, aX2, aRJ⟩ := aSm HB aKS aRH aKP aU2 aUQ aX2 aRJ; have aKZ := am_ aME; have aW5 := am_ aTJ; clear aME aTJ; replace bYU := eq_true bYU; replace bV5 := eq_true bV5; have H := gY.out; clear gY
     by_cases c6 : c0S = true
     ·subst c6
      rw [if_pos rfl] at H; have H' := am_ H; clear H
      go_wp2_with (first | ((with_reducible refine aAa (f := 48) rfl ?_); refine aBh (some 17) Tryz.func48 #[.agg #[.int .i64 ((aAh l0 aC).f0), .int .i64 ((aAh l0 aC).f1), .int .i64 ((aAh l0 aC).f2.f0), .int .i64 ((aAh l0 aC).f2.f1), .string ((aAh l0 aC).f2.f2), .string ((aAh l0 aC).f3), .slice bA4 ((aAh l0 aC).f4).length b1L], .int .i64 a1] ?_; (with_reducible refine (jM.calls _ _ _ _ _ _ _ _ _ _ _ _ _ (cb_ aKZ HB) aW5.out A5.out).mono ?_); rintro e w7 ⟨rfl, hb⟩; refine ⟨_, rfl, ?_⟩; replace HB := bs_ hb; (try clear hb)))
      go_roundg k1
      case measure => have := jK.out; omega
      case rel => exact ⟨(wrap64 (aC + 1)), rs_, H', ⟨by have := jK.out; omega⟩, ⟨bb_⟩⟩
     ·replace c6 := Bool.eq_false_iff.mpr c6
      subst c6; replace H := aZf H; obtain rfl := Option.some.inj H
      go_wp2_with (first | ((with_reducible refine aAa (f := 48) rfl ?_); refine aBh (some 17) Tryz.func48 #[.agg #[.int .i64 ((aAh l0 aC).f0), .int .i64 ((aAh l0 aC).f1), .int .i64 ((aAh l0 aC).f2.f0), .int .i64 ((aAh l0 aC).f2.f1), .string ((aAh l0 aC).f2.f2), .string ((aAh l0 aC).f3), .slice bA4 ((aAh l0 aC).f4).length b1L], .int .i64 a1] ?_; (with_reducible refine (jM.calls _ _ _ _ _ _ _ _ _ _ _ _ _ (cb_ aKZ HB) aW5.out A5.out).mono ?_); rintro e w7 ⟨rfl, hb⟩; refine ⟨_, rfl, ?_⟩; replace HB := bs_ hb; (try clear hb)))
      go_ret
      exact ⟨er_, bb_⟩
    ·rw [if_neg c4] at H
     exact nn_ H
   ·rw [if_neg c3] at H
    have fC := decide_eq_false c3; clear c3; obtain rfl := Option.some.inj H
    go_wp2
    go_ret
    exact ⟨er_, bb_⟩
end Go.Proofs.YtnobhkmpkichdaaGreat.PFnExactViewsOk
