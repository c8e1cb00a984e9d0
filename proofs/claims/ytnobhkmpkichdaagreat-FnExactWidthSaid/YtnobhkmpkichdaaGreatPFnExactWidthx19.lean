-- WRITTEN BY xprint.py, a program of this session over the kit's printer: by nobody's hand
-- PRESSED4 -- PRESSED TWICE3 -- PRESSED TWICE
import Derived.Test.YtnobhkmpkichdaaGreatPress
import Derived.Test.YtnobhkmpkichdaaGreatPress3
import Derived.Test.YtnobhkmpkichdaaGreatPFnExactWidthx0
import Derived.Test.YtnobhkmpkichdaaGreatPFnExactWidthx18
namespace Go.Proofs.YtnobhkmpkichdaaGreat.PFnExactWidth
set_option maxRecDepth 100000
open Go.RowKit Go.Proofs.YtnobhkmpkichdaaGreatW.PrintWords Go.Proofs.YtnobhkmpkichdaaGreatW.PrintLast Go.Proofs.YtnobhkmpkichdaaGreatW.PrintMore
attribute [local go_sem] max2_int min2_int max_two min_two max_three min_three max_four min_four
set_option linter.unusedVariables false
set_option linter.unusedSimpArgs false

/-! ### laws_eqRelS: function 11 -/
def laws_eqRelS.l0 : Nat → List (S68) → List (S68) → Int → Option (Bool)
 | 0, _, _, _ => none
 | k + 1, x0, x1, x5 => if x5 < (x0.length : Int) then (if 0 ≤ x5 then (if x5 < (x1.length : Int) then ((laws_eqRel.f k ((dG x0 x5).f0) ((dG x0 x5).f1.f0) ((dG x0 x5).f1.f1) ((dG x1 x5).f0) ((dG x1 x5).f1.f0) ((dG x1 x5).f1.f1)).bind fun b9L => (if b9L = true then (laws_eqRelS.l0 k x0 x1 (wrap64 (x5 + 1))) else (some false))) else (none)) else (none)) else (some true)
def laws_eqRelS.f (k : Nat) (l0 : List (S68)) (l1 : List (S68)) : Option (Bool) := if (l0.length : Int) = (l1.length : Int) then (laws_eqRelS.l0 k l0 l1 0) else (some false)
def laws_eqRelS.T6 : Bool × List (List Nat × List Nat) := (true, [([], []), ([], []), ([0, 1], [0, 1]), ([2], [2]), ([], []), ([], []), ([4, 5], [4, 5]), ([6], [6]), ([3, 7], [3, 7]), ([8], [8])])
def laws_eqRelS.B6 : List Nat := [0, 0, 3, 7, 0, 0, 48, 112, 255, 511]
theorem laws_eqRelS.zI : rtab .any (opsOf Tryz.f11 6) = laws_eqRelS.T6 := by kernel_rfl
theorem laws_eqRelS.nJ : waitsOk laws_eqRelS.T6.2 laws_eqRelS.B6 = true := by kernel_rfl
set_option maxHeartbeats 8000000 in
theorem laws_eqRelS.calls (k : Nat) (A0 : Option Addr) (c0 : Nat) (l0 : List (S68)) (A1 : Option Addr) (c1 : Nat) (l1 : List (S68)) (r : Bool) (w : World) (hr0 : Kd.C FU w A0 l0.length l0) (hc0 : l0.length ≤ c0) (hr1 : Kd.C FU w A1 l1.length l1) (hc1 : l1.length ≤ c1) (h : laws_eqRelS.f k l0 l1 = some r) :
  Calls Tryz.prog 11 #[.slice A0 l0.length c0, .slice A1 l1.length c1] w fun e w' => e = .returned (.bool r) ∧ Below w.heap.size w w' := by
 have b43 := Tryz.underlying68
 have jE := am_ hr0
 have wH := am_ hc0
 clear hr0 hc0
 have HR1 := am_ hr1
 have U6 := am_ hc1
 clear hr1 hc1
 have HB := am_ (Below.refl w.heap.size w)
 have H : (if (l0.length : Int) = (l1.length : Int) then (laws_eqRelS.l0 k l0 l1 0) else (some false)) = some r := h
 clear h
 by_cases c3 : (l0.length : Int) = (l1.length : Int)
 ·rw [if_pos c3] at H
  have fB : ((l0.length : Int) == (l1.length : Int)) = true := beq_iff_eq.mpr c3; have jG : ((l0.length : Int) != (l1.length : Int)) = false := bne_eq_false_iff_eq.mpr c3; (have MZ : (l0.length == l1.length) = true := by first | simpa using c3 | (simp at c3 ⊢; omega)); clear c3; have H' := am_ H; clear H
  go_enter Tryz.func11, Tryz.ntmps11
  go_wp2
  go_loopg [5] k (fun kq v5 w' => ∃ (aC : Int), v5 = .int .i64 aC ∧ Aside0 (laws_eqRelS.l0 kq l0 l1 aC = some r) ∧ Aside0 (kq ≤ k) ∧ Aside0 (Below w.heap.size w w'))
  case atStart => exact ⟨(0), rs_, H', ⟨Nat.le_refl _⟩, ⟨bb_⟩⟩
  case round =>
   clear H'; (try clear c1); (try clear p2); (try clear c3); (try clear fB); (try clear jG); (try clear MZ); obtain ⟨aC, rfl, HA, kY, HB⟩ := hrel
   cases gk with
   | zero => exact absurd HA.out (by simp [laws_eqRelS.l0])
   | succ k1 =>
    have H := HA.out; clear HA; simp only [laws_eqRelS.l0] at H
    by_cases c4 : aC < (l0.length : Int)
    ·rw [if_pos c4] at H
     have gB := decide_eq_true c4; clear c4
     by_cases c5 : 0 ≤ aC
     ·rw [if_pos c5] at H
      have pV := decide_eq_true c5; clear c5
      by_cases c6 : aC < (l1.length : Int)
      ·rw [if_pos c6] at H
       have kN := decide_eq_true c6; clear c6; replace H := bsi_ H; obtain ⟨b9L, Z7, H⟩ := H
       try dsimp only at H
       have A7 := am_ Z7; clear Z7
       by_cases c8 : b9L = true
       ·subst c8
        rw [if_pos rfl] at H; have H' := am_ H; clear H
        try go_wp2
        replace HB := am_ (below_drew1 HB.out); (have aE6 : 0 ≤ (aC : Int) := oa_); (have aE4 : aC < (l0.length : Int) := oa_); obtain ⟨F7, XG, YQ, bCB, uH, rR, vG, M6, NZ⟩ := DW jE.out aC aE6 aE4; have R5 := vG; have QT := rR; have JS := uH; cases bCB; replace uH := hb_ HB uH; replace rR := hb_ HB rR; replace vG := hb_ HB vG; have R6 := am_ NZ; have a4O := am_ M6; clear NZ M6; replace aE6 := eq_true aE6; replace aE4 := eq_true aE4; (have aEE : 0 ≤ (aC : Int) := oa_); (have aFR : aC < (l1.length : Int) := oa_); obtain ⟨F3, WW, WV, bEP, rW, vK, uG, KR, OA⟩ := DW HR1.out aC aEE aFR; have Q6 := uG; have NK := vK; have PT := rW; cases bEP; replace rW := hb_ HB rW; replace vK := hb_ HB vK; replace uG := hb_ HB uG; have RG := am_ OA; have a7F := am_ KR; clear OA KR; replace aEE := eq_true aEE; replace aFR := eq_true aFR; (refine start_ (n := 10) (S := fun w' => w'.cell? (F7.add ((aC).toNat * 3)) = some (.string ((dG l0 aC).f0)) ∧ w'.cell? ⟨(F7.add ((aC).toNat * 3)).block, (F7.add ((aC).toNat * 3)).off + 1, none⟩ = some (.int .i64 ((dG l0 aC).f1.f0)) ∧ w'.cell? ⟨(F7.add ((aC).toNat * 3)).block, (F7.add ((aC).toNat * 3)).off + 2, none⟩ = some (.slice XG ((dG l0 aC).f1.f1).length YQ) ∧ w'.cell? (F3.add ((aC).toNat * 3)) = some (.string ((dG l1 aC).f0)) ∧ w'.cell? ⟨(F3.add ((aC).toNat * 3)).block, (F3.add ((aC).toNat * 3)).off + 1, none⟩ = some (.int .i64 ((dG l1 aC).f1.f0)) ∧ w'.cell? ⟨(F3.add ((aC).toNat * 3)).block, (F3.add ((aC).toNat * 3)).off + 2, none⟩ = some (.slice WW ((dG l1 aC).f1.f1).length WV)) (ds := []) (tf 0 10) (by kernel_rfl) rfl rfl ⟨(hb_ HB JS), (hb_ HB QT), (hb_ HB R5), (hb_ HB PT), (hb_ HB NK), (hb_ HB Q6)⟩ (fun hHeld => ?_); refine with_tabW laws_eqRelS.zI laws_eqRelS.nJ (fun HT_ HW_ => ?_)); generalize wr.drew = w9 at HB R6 RG uH rR vG rW vK uG hHeld ⊢
        iterate 3 (refine pl_ ?_)
        refine plx_ 4 (bm 10 23) ?_; refine plx_ 5 (bm 10 55) ?_; refine plx_ 6 (bm 10 119) ?_; refine tlx_ 3 (tf 7 3) ?_; refine tl_ ?_; refine on1_ (i := 8) (N := some 25) (tf 9 1) (h := fun K hK => ?_); refine gs_ Tryz.func28 #[.agg #[.string ((dG l0 aC).f0), .int .i64 ((dG l0 aC).f1.f0), .slice XG ((dG l0 aC).f1.f1).length YQ], .agg #[.string ((dG l1 aC).f0), .int .i64 ((dG l1 aC).f1.f0), .slice WW ((dG l1 aC).f1.f1).length WV]] ?_; (with_reducible refine (laws_eqRel.calls k1 ((dG l0 aC).f0) ((dG l0 aC).f1.f0) _ _ ((dG l0 aC).f1.f1) ((dG l1 aC).f0) ((dG l1 aC).f1.f0) _ _ ((dG l1 aC).f1.f1) true _ ?aK ?aT ?bB ?bC A7.out).mono ?_); (case aK => exact ck_ (Kd.C_below R6.out HB.out)); (case aT => exact a4O.out); (case bB => exact ck_ (Kd.C_below RG.out HB.out)); (case bC => exact a7F.out); rintro e w10 ⟨rfl, hb⟩; refine ⟨_, rfl, ?_⟩; replace HB := bs_ hb; (try clear hb); refine hK.out _ _ ⟨(have h_ := hb_ HB JS; h_), (have h_ := hb_ HB QT; h_), (have h_ := hb_ HB R5; h_), (have h_ := hb_ HB PT; h_), (have h_ := hb_ HB NK; h_), (have h_ := hb_ HB Q6; h_)⟩ (fun hHeld => ?_); clear hK K; refine nm_ ?_; refine plx_ 9 (tf 10 0) ?_; refine done_ (done_of HT_.out (by kernel_rfl)) ?_
        try go_wp2
        go_roundg k1
        case measure => have := kY.out; omega
        case rel => exact ⟨(wrap64 (aC + 1)), rs_, H', ⟨by have := kY.out; omega⟩, ⟨bb_⟩⟩
       ·replace c8 := Bool.eq_false_iff.mpr c8
        subst c8; (rw [if_neg (show ¬ (false = true) by decide)] at H); obtain rfl := Option.some.inj H
        try go_wp2
        replace HB := am_ (below_drew1 HB.out); (have aE6 : 0 ≤ (aC : Int) := oa_); (have aE4 : aC < (l0.length : Int) := oa_); obtain ⟨F7, XG, YQ, bCB, uH, rR, vG, M6, NZ⟩ := DW jE.out aC aE6 aE4; have R5 := vG; have QT := rR; have JS := uH; cases bCB; replace uH := hb_ HB uH; replace rR := hb_ HB rR; replace vG := hb_ HB vG; have R6 := am_ NZ; have a4O := am_ M6; clear NZ M6; replace aE6 := eq_true aE6; replace aE4 := eq_true aE4; (have aEE : 0 ≤ (aC : Int) := oa_); (have aFR : aC < (l1.length : Int) := oa_); obtain ⟨F3, WW, WV, bEP, rW, vK, uG, KR, OA⟩ := DW HR1.out aC aEE aFR; have Q6 := uG; have NK := vK; have PT := rW; cases bEP; replace rW := hb_ HB rW; replace vK := hb_ HB vK; replace uG := hb_ HB uG; have RG := am_ OA; have a7F := am_ KR; clear OA KR; replace aEE := eq_true aEE; replace aFR := eq_true aFR; (refine start_ (n := 10) (S := fun w' => w'.cell? (F7.add ((aC).toNat * 3)) = some (.string ((dG l0 aC).f0)) ∧ w'.cell? ⟨(F7.add ((aC).toNat * 3)).block, (F7.add ((aC).toNat * 3)).off + 1, none⟩ = some (.int .i64 ((dG l0 aC).f1.f0)) ∧ w'.cell? ⟨(F7.add ((aC).toNat * 3)).block, (F7.add ((aC).toNat * 3)).off + 2, none⟩ = some (.slice XG ((dG l0 aC).f1.f1).length YQ) ∧ w'.cell? (F3.add ((aC).toNat * 3)) = some (.string ((dG l1 aC).f0)) ∧ w'.cell? ⟨(F3.add ((aC).toNat * 3)).block, (F3.add ((aC).toNat * 3)).off + 1, none⟩ = some (.int .i64 ((dG l1 aC).f1.f0)) ∧ w'.cell? ⟨(F3.add ((aC).toNat * 3)).block, (F3.add ((aC).toNat * 3)).off + 2, none⟩ = some (.slice WW ((dG l1 aC).f1.f1).length WV)) (ds := []) (tf 0 10) (by kernel_rfl) rfl rfl ⟨(hb_ HB JS), (hb_ HB QT), (hb_ HB R5), (hb_ HB PT), (hb_ HB NK), (hb_ HB Q6)⟩ (fun hHeld => ?_); refine with_tabW laws_eqRelS.zI laws_eqRelS.nJ (fun HT_ HW_ => ?_)); generalize wr.drew = iC at HB R6 RG uH rR vG rW vK uG hHeld ⊢
        iterate 3 (refine pl_ ?_)
        refine plx_ 4 (bm 10 23) ?_; refine plx_ 5 (bm 10 55) ?_; refine plx_ 6 (bm 10 119) ?_; refine tlx_ 3 (tf 7 3) ?_; refine tl_ ?_; refine on1_ (i := 8) (N := some 25) (tf 9 1) (h := fun K hK => ?_); refine gs_ Tryz.func28 #[.agg #[.string ((dG l0 aC).f0), .int .i64 ((dG l0 aC).f1.f0), .slice XG ((dG l0 aC).f1.f1).length YQ], .agg #[.string ((dG l1 aC).f0), .int .i64 ((dG l1 aC).f1.f0), .slice WW ((dG l1 aC).f1.f1).length WV]] ?_; (with_reducible refine (laws_eqRel.calls k1 ((dG l0 aC).f0) ((dG l0 aC).f1.f0) _ _ ((dG l0 aC).f1.f1) ((dG l1 aC).f0) ((dG l1 aC).f1.f0) _ _ ((dG l1 aC).f1.f1) false _ ?aK ?aT ?bB ?bC A7.out).mono ?_); (case aK => exact ck_ (Kd.C_below R6.out HB.out)); (case aT => exact a4O.out); (case bB => exact ck_ (Kd.C_below RG.out HB.out)); (case bC => exact a7F.out); rintro e w12 ⟨rfl, hb⟩; refine ⟨_, rfl, ?_⟩; replace HB := bs_ hb; (try clear hb); refine hK.out _ _ ⟨(have h_ := hb_ HB JS; h_), (have h_ := hb_ HB QT; h_), (have h_ := hb_ HB R5; h_), (have h_ := hb_ HB PT; h_), (have h_ := hb_ HB NK; h_), (have h_ := hb_ HB Q6; h_)⟩ (fun hHeld => ?_); clear hK K; refine nm_ ?_; refine plx_ 9 (tf 10 0) ?_; refine done_ (done_of HT_.out (by kernel_rfl)) ?_
        try go_wp2
        go_ret
        exact ⟨er_, bb_⟩
      ·rw [if_neg c6] at H
       exact nn_ H
     ·rw [if_neg c5] at H
      exact nn_ H
    ·rw [if_neg c4] at H
     have gB := decide_eq_false c4; clear c4; obtain rfl := Option.some.inj H
     go_wp2
     go_ret
     exact ⟨er_, bb_⟩
 ·rw [if_neg c3] at H
  have fB : ((l0.length : Int) == (l1.length : Int)) = false := beq_eq_false_iff_ne.mpr c3; have jG : ((l0.length : Int) != (l1.length : Int)) = true := bne_iff_ne.mpr c3; (have MZ : (l0.length == l1.length) = false := by first | simpa using c3 | (simp at c3 ⊢; omega)); obtain rfl := Option.some.inj H
  go_enter Tryz.func11, Tryz.ntmps11
  go_wp2
  go_ret
  exact ⟨er_, bb_⟩

/-! ### laws_eqExpS: function 30 -/
def laws_eqExpS.l0 (E_ : Int → Int → Int → Int → ByteArray → ByteArray → (List (S39)) → Int → Int → Int → Int → ByteArray → ByteArray → (List (S39)) → Option (Bool)) : Nat → List (S39) → List (S39) → Int → Option (Bool)
 | 0, _, _, _ => none
 | k + 1, x0, x1, x5 => if x5 < (x0.length : Int) then (if 0 ≤ x5 then (if x5 < (x1.length : Int) then ((E_ ((rd_T39 x0 x5).f0) ((rd_T39 x0 x5).f1) ((rd_T39 x0 x5).f2.f0) ((rd_T39 x0 x5).f2.f1) ((rd_T39 x0 x5).f2.f2) ((rd_T39 x0 x5).f3) ((rd_T39 x0 x5).f4) ((rd_T39 x1 x5).f0) ((rd_T39 x1 x5).f1) ((rd_T39 x1 x5).f2.f0) ((rd_T39 x1 x5).f2.f1) ((rd_T39 x1 x5).f2.f2) ((rd_T39 x1 x5).f3) ((rd_T39 x1 x5).f4)).bind fun bB0 => (if bB0 = true then (laws_eqExpS.l0 E_ k x0 x1 (wrap64 (x5 + 1))) else (some false))) else (none)) else (none)) else (some true)
def laws_eqExpS.f (E_ : Int → Int → Int → Int → ByteArray → ByteArray → (List (S39)) → Int → Int → Int → Int → ByteArray → ByteArray → (List (S39)) → Option (Bool)) (k : Nat) (l0 : List (S39)) (l1 : List (S39)) : Option (Bool) := if (l0.length : Int) = (l1.length : Int) then (laws_eqExpS.l0 E_ k l0 l1 0) else (some false)
def laws_eqExpS.T6 : Bool × List (List Nat × List Nat) := (true, [([], []), ([], []), ([0, 1], [0, 1]), ([2], [2]), ([], []), ([], []), ([4, 5], [4, 5]), ([6], [6]), ([3, 7], [3, 7]), ([8], [8])])
def laws_eqExpS.B6 : List Nat := [0, 0, 3, 7, 0, 0, 48, 112, 255, 511]
theorem laws_eqExpS.zI : rtab .any (opsOf Tryz.f30 6) = laws_eqExpS.T6 := by kernel_rfl
theorem laws_eqExpS.nJ : waitsOk laws_eqExpS.T6.2 laws_eqExpS.B6 = true := by kernel_rfl
set_option maxHeartbeats 8000000 in
theorem laws_eqExpS.calls (E_ : Int → Int → Int → Int → ByteArray → ByteArray → (List (S39)) → Int → Int → Int → Int → ByteArray → ByteArray → (List (S39)) → Option (Bool)) (EP : ∀ (aD : Int) (aI : Int) (aJ : Int) (aM : Int) (aN : ByteArray) (aQ : ByteArray) (dL : Option Addr) (dJ : Nat) (aV : List (S39)) (bH : Int) (bL : Int) (bP : Int) (bW : Int) (bV : ByteArray) (bX : ByteArray) (q8 : Option Addr) (nS : Nat) (dK : List (S39)) (r : Bool) (w : World) (eX : Kd.C gL w dL aV.length aV) (eU : aV.length ≤ dJ) (DI : Kd.C gL w q8 dK.length dK) (DJ : dK.length ≤ nS) (h : E_ aD aI aJ aM aN aQ aV bH bL bP bW bV bX dK = some r), Calls Tryz.prog 29 #[.agg #[.int .i64 aD, .int .i64 aI, .int .i64 aJ, .int .i64 aM, .string aN, .string aQ, .slice dL aV.length dJ], .agg #[.int .i64 bH, .int .i64 bL, .int .i64 bP, .int .i64 bW, .string bV, .string bX, .slice q8 dK.length nS]] w fun e w' => e = .returned (.bool r) ∧ Below w.heap.size w w') (k : Nat) (A0 : Option Addr) (c0 : Nat) (l0 : List (S39)) (A1 : Option Addr) (c1 : Nat) (l1 : List (S39)) (r : Bool) (w : World) (hr0 : Kd.C gL w A0 l0.length l0) (hc0 : l0.length ≤ c0) (hr1 : Kd.C gL w A1 l1.length l1) (hc1 : l1.length ≤ c1) (h : laws_eqExpS.f E_ k l0 l1 = some r) :
  Calls Tryz.prog 30 #[.slice A0 l0.length c0, .slice A1 l1.length c1] w fun e w' => e = .returned (.bool r) ∧ Below w.heap.size w w' := by
 have vN := Tryz.underlying39
 have jE := am_ hr0
 have wH := am_ hc0
 clear hr0 hc0
 have HR1 := am_ hr1
 have U6 := am_ hc1
 clear hr1 hc1
 have HB := am_ (Below.refl w.heap.size w)
 have H : (if (l0.length : Int) = (l1.length : Int) then (laws_eqExpS.l0 E_ k l0 l1 0) else (some false)) = some r := h
 clear h
 by_cases c3 : (l0.length : Int) = (l1.length : Int)
 ·rw [if_pos c3] at H
  have fB : ((l0.length : Int) == (l1.length : Int)) = true := beq_iff_eq.mpr c3; have jG : ((l0.length : Int) != (l1.length : Int)) = false := bne_eq_false_iff_eq.mpr c3; (have MZ : (l0.length == l1.length) = true := by first | simpa using c3 | (simp at c3 ⊢; omega)); clear c3; have H' := am_ H; clear H
  go_enter Tryz.func30, Tryz.ntmps30
  go_wp2
  go_loopg [5] k (fun kq v5 w' => ∃ (aC : Int), v5 = .int .i64 aC ∧ Aside0 (laws_eqExpS.l0 E_ kq l0 l1 aC = some r) ∧ Aside0 (kq ≤ k) ∧ Aside0 (Below w.heap.size w w'))
  case atStart => exact ⟨(0), rs_, H', ⟨Nat.le_refl _⟩, ⟨bb_⟩⟩
  case round =>
   clear H'; (try clear c1); (try clear p2); (try clear c3); (try clear fB); (try clear jG); (try clear MZ); obtain ⟨aC, rfl, HA, kY, HB⟩ := hrel
   cases gk with
   | zero => exact absurd HA.out (by simp [laws_eqExpS.l0])
   | succ k1 =>
    have H := HA.out; clear HA; simp only [laws_eqExpS.l0] at H
    by_cases c4 : aC < (l0.length : Int)
    ·rw [if_pos c4] at H
     have gB := decide_eq_true c4; clear c4
     by_cases c5 : 0 ≤ aC
     ·rw [if_pos c5] at H
      have pV := decide_eq_true c5; clear c5
      by_cases c6 : aC < (l1.length : Int)
      ·rw [if_pos c6] at H
       have kN := decide_eq_true c6; clear c6; replace H := bsi_ H; obtain ⟨bB0, Z7, H⟩ := H
       try dsimp only at H
       have A7 := am_ Z7; clear Z7
       by_cases c8 : bB0 = true
       ·subst c8
        rw [if_pos rfl] at H; have H' := am_ H; clear H
        try go_wp2
        replace HB := am_ (below_drew1 HB.out); (have aG4 : 0 ≤ (aC : Int) := oa_); (have aEM : aC < (l0.length : Int) := oa_); obtain ⟨jA, XF, a00, bB5, uW, rT, tQ, uR, uA, sZ, uT, M3, LQ⟩ := pE jE.out aC aG4 aEM; have N8 := uT; have KC := sZ; have L6 := uA; have PR := uR; have PP := tQ; have O9 := rT; have KN := uW; cases bB5; replace uW := hb_ HB uW; replace rT := hb_ HB rT; replace tQ := hb_ HB tQ; replace uR := hb_ HB uR; replace uA := hb_ HB uA; replace sZ := hb_ HB sZ; replace uT := hb_ HB uT; have PQ := am_ LQ; have a94 := am_ M3; clear LQ M3; replace aG4 := eq_true aG4; replace aEM := eq_true aEM; (have aF5 : 0 ≤ (aC : Int) := oa_); (have aFK : aC < (l1.length : Int) := oa_); obtain ⟨j5, a06, ZJ, bBP, tC, vL, tV, vH, rP, vI, tJ, OT, RP⟩ := pE HR1.out aC aF5 aFK; have QB := tJ; have K4 := vI; have MU := rP; have KG := vH; have QN := tV; have NF := vL; have P7 := tC; cases bBP; replace tC := hb_ HB tC; replace vL := hb_ HB vL; replace tV := hb_ HB tV; replace vH := hb_ HB vH; replace rP := hb_ HB rP; replace vI := hb_ HB vI; replace tJ := hb_ HB tJ; have R4 := am_ RP; have a4H := am_ OT; clear RP OT; replace aF5 := eq_true aF5; replace aFK := eq_true aFK; (refine start_ (n := 10) (S := fun w' => w'.cell? (jA.add ((aC).toNat * 7)) = some (.int .i64 ((rd_T39 l0 aC).f0)) ∧ w'.cell? ⟨(jA.add ((aC).toNat * 7)).block, (jA.add ((aC).toNat * 7)).off + 1, none⟩ = some (.int .i64 ((rd_T39 l0 aC).f1)) ∧ w'.cell? ⟨(jA.add ((aC).toNat * 7)).block, (jA.add ((aC).toNat * 7)).off + 2, none⟩ = some (.int .i64 ((rd_T39 l0 aC).f2.f0)) ∧ w'.cell? ⟨(jA.add ((aC).toNat * 7)).block, (jA.add ((aC).toNat * 7)).off + 3, none⟩ = some (.int .i64 ((rd_T39 l0 aC).f2.f1)) ∧ w'.cell? ⟨(jA.add ((aC).toNat * 7)).block, (jA.add ((aC).toNat * 7)).off + 4, none⟩ = some (.string ((rd_T39 l0 aC).f2.f2)) ∧ w'.cell? ⟨(jA.add ((aC).toNat * 7)).block, (jA.add ((aC).toNat * 7)).off + 5, none⟩ = some (.string ((rd_T39 l0 aC).f3)) ∧ w'.cell? ⟨(jA.add ((aC).toNat * 7)).block, (jA.add ((aC).toNat * 7)).off + 6, none⟩ = some (.slice XF ((rd_T39 l0 aC).f4).length a00) ∧ w'.cell? (j5.add ((aC).toNat * 7)) = some (.int .i64 ((rd_T39 l1 aC).f0)) ∧ w'.cell? ⟨(j5.add ((aC).toNat * 7)).block, (j5.add ((aC).toNat * 7)).off + 1, none⟩ = some (.int .i64 ((rd_T39 l1 aC).f1)) ∧ w'.cell? ⟨(j5.add ((aC).toNat * 7)).block, (j5.add ((aC).toNat * 7)).off + 2, none⟩ = some (.int .i64 ((rd_T39 l1 aC).f2.f0)) ∧ w'.cell? ⟨(j5.add ((aC).toNat * 7)).block, (j5.add ((aC).toNat * 7)).off + 3, none⟩ = some (.int .i64 ((rd_T39 l1 aC).f2.f1)) ∧ w'.cell? ⟨(j5.add ((aC).toNat * 7)).block, (j5.add ((aC).toNat * 7)).off + 4, none⟩ = some (.string ((rd_T39 l1 aC).f2.f2)) ∧ w'.cell? ⟨(j5.add ((aC).toNat * 7)).block, (j5.add ((aC).toNat * 7)).off + 5, none⟩ = some (.string ((rd_T39 l1 aC).f3)) ∧ w'.cell? ⟨(j5.add ((aC).toNat * 7)).block, (j5.add ((aC).toNat * 7)).off + 6, none⟩ = some (.slice a06 ((rd_T39 l1 aC).f4).length ZJ)) (ds := []) (tf 0 10) (by kernel_rfl) rfl rfl ⟨(hb_ HB KN), (hb_ HB O9), (hb_ HB PP), (hb_ HB PR), (hb_ HB L6), (hb_ HB KC), (hb_ HB N8), (hb_ HB P7), (hb_ HB NF), (hb_ HB QN), (hb_ HB KG), (hb_ HB MU), (hb_ HB K4), (hb_ HB QB)⟩ (fun hHeld => ?_); refine with_tabW laws_eqExpS.zI laws_eqExpS.nJ (fun HT_ HW_ => ?_))
        generalize wr.drew = w9 at HB PQ R4 uW rT tQ uR uA sZ uT tC vL tV vH rP vI tJ hHeld ⊢
        iterate 3 (refine pl_ ?_)
        refine plx_ 4 (bm 10 23) ?_; refine plx_ 5 (bm 10 55) ?_; refine plx_ 6 (bm 10 119) ?_; refine tlx_ 3 (tf 7 3) ?_; refine tl_ ?_; refine on1_ (i := 8) (N := some 25) (tf 9 1) (h := fun K hK => ?_); refine gs_ Tryz.func29 #[.agg #[.int .i64 ((rd_T39 l0 aC).f0), .int .i64 ((rd_T39 l0 aC).f1), .int .i64 ((rd_T39 l0 aC).f2.f0), .int .i64 ((rd_T39 l0 aC).f2.f1), .string ((rd_T39 l0 aC).f2.f2), .string ((rd_T39 l0 aC).f3), .slice XF ((rd_T39 l0 aC).f4).length a00], .agg #[.int .i64 ((rd_T39 l1 aC).f0), .int .i64 ((rd_T39 l1 aC).f1), .int .i64 ((rd_T39 l1 aC).f2.f0), .int .i64 ((rd_T39 l1 aC).f2.f1), .string ((rd_T39 l1 aC).f2.f2), .string ((rd_T39 l1 aC).f3), .slice a06 ((rd_T39 l1 aC).f4).length ZJ]] ?_; (with_reducible refine (EP ((rd_T39 l0 aC).f0) ((rd_T39 l0 aC).f1) ((rd_T39 l0 aC).f2.f0) ((rd_T39 l0 aC).f2.f1) ((rd_T39 l0 aC).f2.f2) ((rd_T39 l0 aC).f3) _ _ ((rd_T39 l0 aC).f4) ((rd_T39 l1 aC).f0) ((rd_T39 l1 aC).f1) ((rd_T39 l1 aC).f2.f0) ((rd_T39 l1 aC).f2.f1) ((rd_T39 l1 aC).f2.f2) ((rd_T39 l1 aC).f3) _ _ ((rd_T39 l1 aC).f4) true _ ?aK ?aT ?bB ?bC A7.out).mono ?_); (case aK => exact ck_ (Kd.C_below PQ.out HB.out)); (case aT => exact a94.out); (case bB => exact ck_ (Kd.C_below R4.out HB.out)); (case bC => exact a4H.out); rintro e w10 ⟨rfl, hb⟩; refine ⟨_, rfl, ?_⟩; replace HB := bs_ hb; (try clear hb); refine hK.out _ _ ⟨(have h_ := hb_ HB KN; h_), (have h_ := hb_ HB O9; h_), (have h_ := hb_ HB PP; h_), (have h_ := hb_ HB PR; h_), (have h_ := hb_ HB L6; h_), (have h_ := hb_ HB KC; h_), (have h_ := hb_ HB N8; h_), (have h_ := hb_ HB P7; h_), (have h_ := hb_ HB NF; h_), (have h_ := hb_ HB QN; h_), (have h_ := hb_ HB KG; h_), (have h_ := hb_ HB MU; h_), (have h_ := hb_ HB K4; h_), (have h_ := hb_ HB QB; h_)⟩ (fun hHeld => ?_); clear hK K; refine nm_ ?_; refine plx_ 9 (tf 10 0) ?_; refine done_ (done_of HT_.out (by kernel_rfl)) ?_
        try go_wp2
        go_roundg k1
        case measure => have := kY.out; omega
        case rel => exact ⟨(wrap64 (aC + 1)), rs_, H', ⟨by have := kY.out; omega⟩, ⟨bb_⟩⟩
       ·replace c8 := Bool.eq_false_iff.mpr c8
        subst c8; (rw [if_neg (show ¬ (false = true) by decide)] at H); obtain rfl := Option.some.inj H
        try go_wp2
        replace HB := am_ (below_drew1 HB.out); (have aG4 : 0 ≤ (aC : Int) := oa_); (have aEM : aC < (l0.length : Int) := oa_); obtain ⟨jA, XF, a00, bB5, uW, rT, tQ, uR, uA, sZ, uT, M3, LQ⟩ := pE jE.out aC aG4 aEM; have N8 := uT; have KC := sZ; have L6 := uA; have PR := uR; have PP := tQ; have O9 := rT; have KN := uW; cases bB5; replace uW := hb_ HB uW; replace rT := hb_ HB rT; replace tQ := hb_ HB tQ; replace uR := hb_ HB uR; replace uA := hb_ HB uA; replace sZ := hb_ HB sZ; replace uT := hb_ HB uT; have PQ := am_ LQ; have a94 := am_ M3; clear LQ M3; replace aG4 := eq_true aG4; replace aEM := eq_true aEM; (have aF5 : 0 ≤ (aC : Int) := oa_); (have aFK : aC < (l1.length : Int) := oa_); obtain ⟨j5, a06, ZJ, bBP, tC, vL, tV, vH, rP, vI, tJ, OT, RP⟩ := pE HR1.out aC aF5 aFK; have QB := tJ; have K4 := vI; have MU := rP; have KG := vH; have QN := tV; have NF := vL; have P7 := tC; cases bBP; replace tC := hb_ HB tC; replace vL := hb_ HB vL; replace tV := hb_ HB tV; replace vH := hb_ HB vH; replace rP := hb_ HB rP; replace vI := hb_ HB vI; replace tJ := hb_ HB tJ; have R4 := am_ RP; have a4H := am_ OT; clear RP OT; replace aF5 := eq_true aF5; replace aFK := eq_true aFK; (refine start_ (n := 10) (S := fun w' => w'.cell? (jA.add ((aC).toNat * 7)) = some (.int .i64 ((rd_T39 l0 aC).f0)) ∧ w'.cell? ⟨(jA.add ((aC).toNat * 7)).block, (jA.add ((aC).toNat * 7)).off + 1, none⟩ = some (.int .i64 ((rd_T39 l0 aC).f1)) ∧ w'.cell? ⟨(jA.add ((aC).toNat * 7)).block, (jA.add ((aC).toNat * 7)).off + 2, none⟩ = some (.int .i64 ((rd_T39 l0 aC).f2.f0)) ∧ w'.cell? ⟨(jA.add ((aC).toNat * 7)).block, (jA.add ((aC).toNat * 7)).off + 3, none⟩ = some (.int .i64 ((rd_T39 l0 aC).f2.f1)) ∧ w'.cell? ⟨(jA.add ((aC).toNat * 7)).block, (jA.add ((aC).toNat * 7)).off + 4, none⟩ = some (.string ((rd_T39 l0 aC).f2.f2)) ∧ w'.cell? ⟨(jA.add ((aC).toNat * 7)).block, (jA.add ((aC).toNat * 7)).off + 5, none⟩ = some (.string ((rd_T39 l0 aC).f3)) ∧ w'.cell? ⟨(jA.add ((aC).toNat * 7)).block, (jA.add ((aC).toNat * 7)).off + 6, none⟩ = some (.slice XF ((rd_T39 l0 aC).f4).length a00) ∧ w'.cell? (j5.add ((aC).toNat * 7)) = some (.int .i64 ((rd_T39 l1 aC).f0)) ∧ w'.cell? ⟨(j5.add ((aC).toNat * 7)).block, (j5.add ((aC).toNat * 7)).off + 1, none⟩ = some (.int .i64 ((rd_T39 l1 aC).f1)) ∧ w'.cell? ⟨(j5.add ((aC).toNat * 7)).block, (j5.add ((aC).toNat * 7)).off + 2, none⟩ = some (.int .i64 ((rd_T39 l1 aC).f2.f0)) ∧ w'.cell? ⟨(j5.add ((aC).toNat * 7)).block, (j5.add ((aC).toNat * 7)).off + 3, none⟩ = some (.int .i64 ((rd_T39 l1 aC).f2.f1)) ∧ w'.cell? ⟨(j5.add ((aC).toNat * 7)).block, (j5.add ((aC).toNat * 7)).off + 4, none⟩ = some (.string ((rd_T39 l1 aC).f2.f2)) ∧ w'.cell? ⟨(j5.add ((aC).toNat * 7)).block, (j5.add ((aC).toNat * 7)).off + 5, none⟩ = some (.string ((rd_T39 l1 aC).f3)) ∧ w'.cell? ⟨(j5.add ((aC).toNat * 7)).block, (j5.add ((aC).toNat * 7)).off + 6, none⟩ = some (.slice a06 ((rd_T39 l1 aC).f4).length ZJ)) (ds := []) (tf 0 10) (by kernel_rfl) rfl rfl ⟨(hb_ HB KN), (hb_ HB O9), (hb_ HB PP), (hb_ HB PR), (hb_ HB L6), (hb_ HB KC), (hb_ HB N8), (hb_ HB P7), (hb_ HB NF), (hb_ HB QN), (hb_ HB KG), (hb_ HB MU), (hb_ HB K4), (hb_ HB QB)⟩ (fun hHeld => ?_); refine with_tabW laws_eqExpS.zI laws_eqExpS.nJ (fun HT_ HW_ => ?_))
        generalize wr.drew = iC at HB PQ R4 uW rT tQ uR uA sZ uT tC vL tV vH rP vI tJ hHeld ⊢
        iterate 3 (refine pl_ ?_)
        refine plx_ 4 (bm 10 23) ?_; refine plx_ 5 (bm 10 55) ?_; refine plx_ 6 (bm 10 119) ?_; refine tlx_ 3 (tf 7 3) ?_; refine tl_ ?_; refine on1_ (i := 8) (N := some 25) (tf 9 1) (h := fun K hK => ?_); refine gs_ Tryz.func29 #[.agg #[.int .i64 ((rd_T39 l0 aC).f0), .int .i64 ((rd_T39 l0 aC).f1), .int .i64 ((rd_T39 l0 aC).f2.f0), .int .i64 ((rd_T39 l0 aC).f2.f1), .string ((rd_T39 l0 aC).f2.f2), .string ((rd_T39 l0 aC).f3), .slice XF ((rd_T39 l0 aC).f4).length a00], .agg #[.int .i64 ((rd_T39 l1 aC).f0), .int .i64 ((rd_T39 l1 aC).f1), .int .i64 ((rd_T39 l1 aC).f2.f0), .int .i64 ((rd_T39 l1 aC).f2.f1), .string ((rd_T39 l1 aC).f2.f2), .string ((rd_T39 l1 aC).f3), .slice a06 ((rd_T39 l1 aC).f4).length ZJ]] ?_; (with_reducible refine (EP ((rd_T39 l0 aC).f0) ((rd_T39 l0 aC).f1) ((rd_T39 l0 aC).f2.f0) ((rd_T39 l0 aC).f2.f1) ((rd_T39 l0 aC).f2.f2) ((rd_T39 l0 aC).f3) _ _ ((rd_T39 l0 aC).f4) ((rd_T39 l1 aC).f0) ((rd_T39 l1 aC).f1) ((rd_T39 l1 aC).f2.f0) ((rd_T39 l1 aC).f2.f1) ((rd_T39 l1 aC).f2.f2) ((rd_T39 l1 aC).f3) _ _ ((rd_T39 l1 aC).f4) false _ ?aK ?aT ?bB ?bC A7.out).mono ?_); (case aK => exact ck_ (Kd.C_below PQ.out HB.out)); (case aT => exact a94.out); (case bB => exact ck_ (Kd.C_below R4.out HB.out)); (case bC => exact a4H.out); rintro e w12 ⟨rfl, hb⟩; refine ⟨_, rfl, ?_⟩; replace HB := bs_ hb; (try clear hb); refine hK.out _ _ ⟨(have h_ := hb_ HB KN; h_), (have h_ := hb_ HB O9; h_), (have h_ := hb_ HB PP; h_), (have h_ := hb_ HB PR; h_), (have h_ := hb_ HB L6; h_), (have h_ := hb_ HB KC; h_), (have h_ := hb_ HB N8; h_), (have h_ := hb_ HB P7; h_), (have h_ := hb_ HB NF; h_), (have h_ := hb_ HB QN; h_), (have h_ := hb_ HB KG; h_), (have h_ := hb_ HB MU; h_), (have h_ := hb_ HB K4; h_), (have h_ := hb_ HB QB; h_)⟩ (fun hHeld => ?_); clear hK K; refine nm_ ?_; refine plx_ 9 (tf 10 0) ?_; refine done_ (done_of HT_.out (by kernel_rfl)) ?_
        try go_wp2
        go_ret
        exact ⟨er_, bb_⟩
      ·rw [if_neg c6] at H
       exact nn_ H
     ·rw [if_neg c5] at H
      exact nn_ H
    ·rw [if_neg c4] at H
     have gB := decide_eq_false c4; clear c4; obtain rfl := Option.some.inj H
     go_wp2
     go_ret
     exact ⟨er_, bb_⟩
 ·rw [if_neg c3] at H
  have fB : ((l0.length : Int) == (l1.length : Int)) = false := beq_eq_false_iff_ne.mpr c3; have jG : ((l0.length : Int) != (l1.length : Int)) = true := bne_iff_ne.mpr c3; (have MZ : (l0.length == l1.length) = false := by first | simpa using c3 | (simp at c3 ⊢; omega)); obtain rfl := Option.some.inj H
  go_enter Tryz.func30, Tryz.ntmps30
  go_wp2
  go_ret
  exact ⟨er_, bb_⟩

end Go.Proofs.YtnobhkmpkichdaaGreat.PFnExactWidth
