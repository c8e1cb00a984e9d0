-- WRITTEN BY xprint.py, a program of this session over the kit's printer: by nobody's hand
-- PRESSED4 -- PRESSED TWICE3 -- PRESSED TWICE
import Derived.Test.YtnobhkmpkichdaaGreatShelf
import Derived.Test.YtnobhkmpkichdaaGreatWKept
import Derived.Maps.Own
import Derived.Maps.OwnOps
import Derived.Maps.OwnSet
import Derived.Maps.Views
import Derived.Lib.SlKeysI
import Derived.Carry
import Derived.WalkKit
import Derived.Test.YtnobhkmpkichdaaGreatPress
import Derived.Test.YtnobhkmpkichdaaGreatPress3
import Derived.Test.YtnobhkmpkichdaaGreatWKept
import Derived.Test.YtnobhkmpkichdaaGreatPFnExactWidthx0
import Derived.Test.YtnobhkmpkichdaaGreatPFnExactWidthx14
namespace Go.Proofs.YtnobhkmpkichdaaGreat.PFnExactWidth
open Go.RowKit Go.Proofs.YtnobhkmpkichdaaGreatW.PrintWords Go.Proofs.YtnobhkmpkichdaaGreatW.PrintLast Go.Proofs.YtnobhkmpkichdaaGreatW.PrintMore
attribute [local go_sem] max2_int min2_int max_two min_two max_three min_three max_four min_four
set_option linter.unusedVariables false
set_option linter.unusedSimpArgs false

/-! ### UO: function 98 -/
-- by hand
mutual
def impl_columns.j0 : Nat → Int → List Int → Int → Int → Int → Int → ByteArray → ByteArray → List (S39) → Option (List Int)
 | 0, _, _, _, _, _, _, _, _, _ => none
 | k + 1, x1, x2, kG, xD, qO, qP, qI, qF, mM => if x1 < 40 then (impl_columns.l0 k x1 x2 mM (mM.length : Int) 0) else (some x2)
def impl_columns.l0 : Nat → Int → List Int → List (S39) → Int → Int → Option (List Int)
 | 0, _, _, _, _, _ => none
 | k + 1, x1, x2, x17, x18, x19 => if x19 < x18 then (if 0 ≤ x19 then (if x19 < (x17.length : Int) then ((impl_columns.f k ((rd_T39 x17 x19).f0) ((rd_T39 x17 x19).f1) ((rd_T39 x17 x19).f2.f0) ((rd_T39 x17 x19).f2.f1) ((rd_T39 x17 x19).f2.f2) ((rd_T39 x17 x19).f3) ((rd_T39 x17 x19).f4) (wrap64 (x1 + 1)) x2).bind fun x2 => (impl_columns.l0 k x1 x2 x17 x18 (wrap64 (x19 + 1)))) else (none)) else (none)) else (some x2)
def impl_columns.f : Nat → Int → Int → Int → Int → ByteArray → ByteArray → List (S39) → Int → List Int → Option (List Int)
 | 0, _, _, _, _, _, _, _, _, _ => none
 | k + 1, aD, aI, aJ, aM, aN, aQ, aV, a1, a2 => if aD = 0 then (if a2.length < 1073741824 ∧ (Lit.int .i64 aI).wf = true then (impl_columns.j0 k a1 (a2 ++ [aI]) aD aI aJ aM aN aQ aV) else none) else (impl_columns.j0 k a1 a2 aD aI aJ aM aN aQ aV)
end
open Go.Maps in
/-- A map (block b) whose keys are these. -/
def MapIs (w : World) (b : Nat) (s : List Int) : Prop := ∃ D : DataW Unit, w.ownsMap Tryz.prog 3 (plainElem Tryz.prog 4) b s.length D ∧ ∀ x : Int, has D (.int .i64 x) = true ↔ x ∈ s
open Go.Maps in
theorem MapIs.lt {w : World} {b : Nat} {s : List Int} (h : MapIs w b s) : b < w.heap.size := by obtain ⟨D, h, _⟩ := h; exact h.lt
open Go.Maps in
theorem MapIs.kept {w w' : World} {b : Nat} {s : List Int} (h : MapIs w b s) (hb : Below w.heap.size w w') : MapIs w' b s := by
 obtain ⟨D, h1, h2⟩ := h
 obtain ⟨es, clock, hb', Ft, hs, hD⟩ := h1
 exact ⟨D, ⟨es, clock, (hb.block b (Array.getElem?_eq_some_iff.1 hb').1).trans hb', Ft, hs, hD⟩, h2⟩
open Go.Maps in
theorem MapIs.put {w w' : World} {b : Nat} {s : List Int} {D : DataW Unit} {n : Int} (h0 : w.ownsMap Tryz.prog 3 (plainElem Tryz.prog 4) b s.length D) (h2 : ∀ x : Int, has D (.int .i64 x) = true ↔ x ∈ s) (h : w'.ownsMap Tryz.prog 3 (plainElem Tryz.prog 4) b (s.length + 1) (D.put (.int .i64 n) (.lit (.bool true)))) : MapIs w' b (s ++ [n]) := by
 refine ⟨_, by rw [List.length_append]; exact h, fun x => ?_⟩
 by_cases hx : x = n
 · subst hx
   rw [has_put_same h0.isMap (by simp [WideAt.IsKeyLit])]
   simp
 · rw [has_put_other (by intro e; injection e with _ e; exact hx e), h2 x]
   simp [hx]
theorem kept_one {w W W2 : World} {b : Nat} (h : Kept w W (fun k => k = b)) (k : Kept W W2 (fun k => k = b)) : Kept w W2 (fun k => k = b) := h.then_ k (fun _ h => .inl h)
theorem kept_grown {w w' : World} {b : Nat} (h : w.grownBy w' (some b)) : Kept w w' (fun k => k = b) := ⟨h.size, fun i hi hn => h.block i hi (fun e => hn (Option.some.inj e))⟩
theorem mk_ {b : Nat} {s : List Int} {W0 W : World} (x : MapIs W0 b s) (h : Ext W0 W := by repeat (first | with_reducible exact Ext.refl | with_reducible apply Ext.alloc | with_reducible apply Ext.drewN | with_reducible apply Ext.drew | exact Ext.refl)) : MapIs W b s := by
 induction h with
 | refl => exact x
 | alloc _ o ih => exact ih.kept (below_alloc (Below.refl _ _) o)
 | drewN _ m ih => exact ih
 | drew _ ih => exact ih
theorem kk_ {b : Nat} {w W0 W : World} (x : Kept w W0 (fun k => k = b)) (h : Ext W0 W := by repeat (first | with_reducible exact Ext.refl | with_reducible apply Ext.alloc | with_reducible apply Ext.drewN | with_reducible apply Ext.drew | exact Ext.refl)) : Kept w W (fun k => k = b) := by
 induction h with
 | refl => exact x
 | alloc _ o ih => exact ih.alloc o
 | drewN _ m ih => exact ih.drewN m
 | drew _ ih => exact ih.drew
theorem cXZ {W0 W : World} {g : Nat} {u0 u1 u2 u3 u4 u5 u6 : Value} (h : Below W0.heap.size W0 W) (hg : Aside0 (W0.heap.size ≤ g)) : Below W0.heap.size W0 (((((((W.setCell ⟨g, 0, none⟩ u0).setCell ⟨g, 1, none⟩ u1).setCell ⟨g, 2, none⟩ u2).setCell ⟨g, 3, none⟩ u3).setCell ⟨g, 4, none⟩ u4).setCell ⟨g, 5, none⟩ u5).setCell ⟨g, 6, none⟩ u6) := below_set (below_set (below_set (below_set (below_set (below_set (below_set h hg.out) hg.out) hg.out) hg.out) hg.out) hg.out) hg.out
theorem MapIs.far {W : World} {b : Nat} {s : List Int} (h : MapIs W b s) {p : Addr} (hp : p.block ≠ b) (u : Value) : MapIs (W.setCell p u) b s := by
 obtain ⟨D, h1, h2⟩ := h
 exact ⟨D, h1.setCell (Ne.symm hp) u, h2⟩
theorem cV6 {W : World} {b g : Nat} {s : List Int} {u0 u1 u2 u3 u4 u5 u6 : Value} (h : MapIs W b s) (hg : Aside0 (g ≠ b)) : MapIs (((((((W.setCell ⟨g, 0, none⟩ u0).setCell ⟨g, 1, none⟩ u1).setCell ⟨g, 2, none⟩ u2).setCell ⟨g, 3, none⟩ u3).setCell ⟨g, 4, none⟩ u4).setCell ⟨g, 5, none⟩ u5).setCell ⟨g, 6, none⟩ u6) b s := (((((((h.far (p := ⟨g, 0, none⟩) hg.out u0).far (p := ⟨g, 1, none⟩) hg.out u1).far (p := ⟨g, 2, none⟩) hg.out u2).far (p := ⟨g, 3, none⟩) hg.out u3).far (p := ⟨g, 4, none⟩) hg.out u4).far (p := ⟨g, 5, none⟩) hg.out u5).far (p := ⟨g, 6, none⟩) hg.out u6)
theorem cXO {w W : World} {b g : Nat} {u0 u1 u2 u3 u4 u5 u6 : Value} (h : Kept w W (fun k => k = b)) (hg : Aside0 (w.heap.size ≤ g)) : Kept w (((((((W.setCell ⟨g, 0, none⟩ u0).setCell ⟨g, 1, none⟩ u1).setCell ⟨g, 2, none⟩ u2).setCell ⟨g, 3, none⟩ u3).setCell ⟨g, 4, none⟩ u4).setCell ⟨g, 5, none⟩ u5).setCell ⟨g, 6, none⟩ u6) (fun k => k = b) := (((((((h.setCell (p := ⟨g, 0, none⟩) (.inr hg.out) u0).setCell (p := ⟨g, 1, none⟩) (.inr hg.out) u1).setCell (p := ⟨g, 2, none⟩) (.inr hg.out) u2).setCell (p := ⟨g, 3, none⟩) (.inr hg.out) u3).setCell (p := ⟨g, 4, none⟩) (.inr hg.out) u4).setCell (p := ⟨g, 5, none⟩) (.inr hg.out) u5).setCell (p := ⟨g, 6, none⟩) (.inr hg.out) u6)
set_option maxHeartbeats 8000000 in
set_option maxRecDepth 100000 in
theorem impl_columns.calls (k : Nat) : ∀ (aD : Int) (aI : Int) (aJ : Int) (aM : Int) (aN : ByteArray) (aQ : ByteArray) (dL : Option Addr) (dJ : Nat) (aV : List (S39)) (a1 : Int) (a2 : List Int) (r : List Int) (b_ : Nat) (w0 w : World) (hB_ : Below w0.heap.size w0 w) (hb_ : w0.heap.size ≤ b_) (hm_ : MapIs w b_ a2) (eX : Kd.C gL w0 dL aV.length aV) (eU : aV.length ≤ dJ) (h : impl_columns.f k aD aI aJ aM aN aQ aV a1 a2 = some r),
  Calls Tryz.prog 119 #[.agg #[.int .i64 aD, .int .i64 aI, .int .i64 aJ, .int .i64 aM, .string aN, .string aQ, .slice dL aV.length dJ], .int .i64 a1, .map (some b_)] w fun e w' => e = .returned (.tuple #[]) ∧ MapIs w' b_ r ∧ Kept w w' (fun k => k = b_) ∧ Below w0.heap.size w0 w' := by
 induction k using Nat.strongRecOn with
 | _ k ih =>
 intro aD aI aJ aM aN aQ dL dJ aV a1 a2 r b_ w0 w hB_ hb_ hm_ eX eU h
 cases k with
 | zero => exact absurd h (by simp [impl_columns.f])
 | succ k =>
 simp only [impl_columns.f] at h
 have vN := Tryz.underlying39
 have gD := am_ eX
 have gW := am_ eU
 clear eX eU
 have HB := am_ hB_
 have HM := am_ hm_
 have HK := am_ (Kept.refl w (fun k => k = b_))
 have GB := am_ hb_
 clear hB_ hm_ hb_
 have H : (if aD = 0 then (if a2.length < 1073741824 ∧ (Lit.int .i64 aI).wf = true then (impl_columns.j0 k a1 (a2 ++ [aI]) aD aI aJ aM aN aQ aV) else none) else (impl_columns.j0 k a1 a2 aD aI aJ aM aN aQ aV)) = some r := h
 clear h
 have HC4 := am_ H
 clear H
 go_enter Tryz.func119, Tryz.ntmps119
 go_upto_if 10 with (first | ((with_reducible refine gate_dst (N := 3) rfl ?_); refine bx_ 3 #[.int .i64 aD, .int .i64 aI, .int .i64 aJ, .int .i64 aM, .string aN, .string aQ, .slice dL aV.length dJ] 39 ?_; intro aX hg w5 hbox hb; have aA := am_ (hbox); have aB4 := gw_ hg; have b8A := gw_ hg; have NGB := am_ (show aX ≠ b_ from by rw [hg]; exact Nat.ne_of_gt (mk_ HM.out).lt); replace HM := am_ ((mk_ HM.out).kept hb); replace HK := am_ ((kk_ HK.out).below hb); replace HB := bs_ hb; clear hb hbox hg; obtain ⟨jR, jT, lK, lT, lM, lU, lS, jU, jS, lW, lQ, lX, lL, lV⟩ := b7_ aA))
 (try simp only [Act.put, List.setIfInBounds_toArray, List.set_cons_zero, List.set_cons_succ])
 go_cut [] (fun wc => ∃ (kq : Nat) (s_ : List Int), Aside0 (impl_columns.j0 kq a1 s_ aD aI aJ aM aN aQ aV = some r) ∧ Aside0 (kq ≤ k) ∧ Aside0 (wc.heap[aX]? = some (.cells #[.int .i64 aD, .int .i64 aI, .int .i64 aJ, .int .i64 aM, .string aN, .string aQ, (.slice dL aV.length dJ)] 39 (0, 0))) ∧ Aside0 (Below w0.heap.size w0 wc) ∧ Aside0 (MapIs wc b_ s_) ∧ Aside0 (Kept w wc (fun k => k = b_)))
 case first =>
  have H := HC4.out
  clear HC4
  by_cases c7 : aD = 0
  ·rw [if_pos c7] at H
   have gJ : (aD == 0) = true := beq_iff_eq.mpr c7
   have CF : (aD != 0) = false := bne_eq_false_iff_eq.mpr c7
   clear c7
   (first | rw [gJ] | (simp only [i64_w, i32_w]; rw [gJ]) | skip)
   by_cases c_ : a2.length < 1073741824 ∧ (Lit.int .i64 aI).wf = true
   case neg => rw [if_neg c_] at H; cases H
   rw [if_pos c_] at H
   have H' := am_ H
   clear H
   have CB_ := am_ c_
   clear c_
   have cWM := Go.Maps.int_keyed Tryz.underlying3
   obtain ⟨D_, ho_, hh_⟩ := HM.out
   obtain ⟨nH, nD, rC, wC, wD, vU, vW, nC, nG, rA, vQ, wF, vP, vY⟩ := b7_ aA
   go_wp2_with (at_mapUpdate; refine wpList_mapUpdate_own _ rfl _ _ _ 149 rfl 3 4 cWM Tryz.underlying149 _ b_ a2.length _ rfl ho_ (by have := CB_.out.1; unfold maxLen; omega) _ _ _ rfl rfl (Go.Maps.keyOf_int_mk Tryz.underlying3 CB_.out.2) _ [] (plainElem_bool Tryz.underlying4 true) ?_; intro w1_ aU7 a8E; replace HM := am_ (MapIs.put ho_ hh_ aU7); have kg_ := kept_grown a8E; replace HK := am_ (kept_one HK.out kg_); replace aA := am_ (blk_kept (g := aX) aA.out kg_ NGB.out); replace HB := am_ (Below.grown HB.out a8E HB.out.size (fun j hj => by cases hj; exact GB.out)); clear aU7 a8E kg_ ho_)
   go_meet
   case rel => exact ⟨_, _, H', ⟨by first | omega | exact Nat.le_refl _⟩, ⟨bkx_ aA.out⟩, ⟨bb_⟩, ⟨mk_ HM.out⟩, ⟨kk_ HK.out⟩⟩
  ·rw [if_neg c7] at H
   have gJ : (aD == 0) = false := beq_eq_false_iff_ne.mpr c7
   have CF : (aD != 0) = true := bne_iff_ne.mpr c7
   (first | rw [gJ] | (simp only [i64_w, i32_w]; rw [gJ]) | skip)
   have H' := am_ H
   clear H
   go_wp2
   go_meet
   case rel => exact ⟨_, _, H', ⟨by first | omega | exact Nat.le_refl _⟩, ⟨bkx_ aA.out⟩, ⟨bb_⟩, ⟨mk_ HM.out⟩, ⟨kk_ HK.out⟩⟩
 case rest =>
  clear HC4
  try clear c1
  try clear p2
  try clear c7
  try clear gJ
  try clear CF
  try clear jR
  try clear jT
  try clear lK
  try clear lT
  try clear lM
  try clear lU
  try clear lS
  try clear nH
  try clear nD
  try clear rC
  try clear wC
  try clear wD
  try clear vU
  try clear vW
  try clear jU
  try clear jS
  try clear lW
  try clear lQ
  try clear lX
  try clear lL
  try clear lV
  try clear nC
  try clear nG
  try clear rA
  try clear vQ
  try clear wF
  try clear vP
  try clear vY
  obtain ⟨kq, s_, HA, HJ3, aA, HB, HM, HK⟩ := hcut
  cases kq with
  | zero => exact absurd HA.out (by simp [impl_columns.j0])
  | succ kj3 =>
   have H := HA.out
   clear HA
   simp only [impl_columns.j0] at H
   by_cases c9 : a1 < 40
   ·rw [if_pos c9] at H
    have yP := decide_eq_true c9
    clear c9
    have H' := am_ H
    clear H
    obtain ⟨iM, iE, jW, wR, wW, xJ, xA, iJ, iN, kF, y5, wX, xG, xE⟩ := b7_ aA
    go_wp2
    go_loopg [19] kj3 (fun kq v19 w' => ∃ (gZ : Int) (q_ : List Int), v19 = .int .i64 gZ ∧ Aside0 (impl_columns.l0 kq a1 q_ aV (aV.length : Int) gZ = some r) ∧ Aside0 (kq ≤ kj3) ∧ Aside0 (w'.heap[aX]? = some (.cells #[.int .i64 aD, .int .i64 aI, .int .i64 aJ, .int .i64 aM, .string aN, .string aQ, (.slice dL aV.length dJ)] 39 (0, 0))) ∧ Aside0 (Below w0.heap.size w0 w') ∧ Aside0 (MapIs w' b_ q_) ∧ Aside0 (Kept w w' (fun k => k = b_)))
    case atStart => exact ⟨(0), s_, rs_, H', ⟨Nat.le_refl _⟩, ⟨bkx_ aA.out⟩, ⟨bb_⟩, ⟨mk_ HM.out⟩, ⟨kk_ HK.out⟩⟩
    case round =>
     clear H'
     try clear c1
     try clear p2
     try clear c7
     try clear gJ
     try clear CF
     try clear c9
     try clear yP
     try clear iM
     try clear iE
     try clear jW
     try clear wR
     try clear wW
     try clear xJ
     try clear xA
     try clear jR
     try clear jT
     try clear lK
     try clear lT
     try clear lM
     try clear lU
     try clear lS
     try clear nH
     try clear nD
     try clear rC
     try clear wC
     try clear wD
     try clear vU
     try clear vW
     try clear iJ
     try clear iN
     try clear kF
     try clear y5
     try clear wX
     try clear xG
     try clear xE
     try clear jU
     try clear jS
     try clear lW
     try clear lQ
     try clear lX
     try clear lL
     try clear lV
     try clear nC
     try clear nG
     try clear rA
     try clear vQ
     try clear wF
     try clear vP
     try clear vY
     try clear p2
     obtain ⟨gZ, q_, rfl, HA, HK2, aA, HB, HM, HK⟩ := hrel
     cases gk with
     | zero => exact absurd HA.out (by simp [impl_columns.l0])
     | succ k2 =>
      have H := HA.out
      clear HA
      simp only [impl_columns.l0] at H
      by_cases c11 : gZ < (aV.length : Int)
      ·rw [if_pos c11] at H
       have a15 := decide_eq_true c11
       clear c11
       by_cases c12 : 0 ≤ gZ
       ·rw [if_pos c12] at H
        have yU := decide_eq_true c12
        clear c12
        by_cases c13 : gZ < (aV.length : Int)
        ·rw [if_pos c13] at H
         have G7 := decide_eq_true c13
         clear c13
         replace H := bsi_ H
         obtain ⟨t14, aAA, H⟩ := H
         try dsimp only at H
         have A14 := am_ aAA
         clear aAA
         have H' := am_ H
         clear H
         have b9N : 0 ≤ (gZ : Int) := oa_
         have b9Y : gZ < (aV.length : Int) := oa_
         obtain ⟨bUE, aUV, aTE, cU3, aMN, aJD, aJI, aN9, aGW, aLX, aLY, aN3, aJY⟩ := pE gD.out gZ b9N b9Y
         cases cU3
         replace aMN := hb_ HB aMN
         replace aJD := hb_ HB aJD
         replace aJI := hb_ HB aJI
         replace aN9 := hb_ HB aN9
         replace aGW := hb_ HB aGW
         replace aLX := hb_ HB aLX
         replace aLY := hb_ HB aLY
         have aWP := am_ aJY
         have b5E := am_ aN3
         clear aJY aN3
         replace b9N := eq_true b9N
         replace b9Y := eq_true b9Y
         go_wp2_with (first | ((with_reducible refine gate_dst (N := 7) rfl ?_); refine bx_ 7 #[.int .i64 0, .int .i64 0, .int .i64 0, .int .i64 0, .string (⟨#[]⟩ : ByteArray), .string (⟨#[]⟩ : ByteArray), .slice none 0 0] 39 ?_; intro aW1 hg w15 hbox hb; have aSA := am_ (hbox); have cYP := gw_ hg; have c2X := gw_ hg; have a0M := nl_ hg aA; have aOH := ng_ hg aA; have GWK := am_ (show w.heap.size ≤ aW1 from by rw [hg]; exact (kk_ HK.out).1); have bOR := am_ (show aW1 ≠ b_ from by rw [hg]; exact Nat.ne_of_gt (mk_ HM.out).lt); replace aA := bkb_ aA hb; replace HM := am_ ((mk_ HM.out).kept hb); replace HK := am_ ((kk_ HK.out).below hb); replace HB := bs_ hb; clear hb hbox hg; have c4O := aOH.out; have cD7 := a0M.out; obtain ⟨pO, oO, qL, wQ, y8, x9, xK, pM, o6, qH, yB, wT, wO, xU⟩ := b7_ aSA) | ((with_reducible refine gate_callee (f := 119) rfl ?_); refine gsL_ (some 27) Tryz.func119 #[.agg #[.int .i64 ((rd_T39 aV gZ).f0), .int .i64 ((rd_T39 aV gZ).f1), .int .i64 ((rd_T39 aV gZ).f2.f0), .int .i64 ((rd_T39 aV gZ).f2.f1), .string ((rd_T39 aV gZ).f2.f2), .string ((rd_T39 aV gZ).f3), .slice aUV ((rd_T39 aV gZ).f4).length aTE], .int .i64 (wrap64 (a1 + 1)), .map (some b_)] ?_; (with_reducible refine (ih k2 (by have := HJ3.out; have := HK2.out; omega) ((rd_T39 aV gZ).f0) ((rd_T39 aV gZ).f1) ((rd_T39 aV gZ).f2.f0) ((rd_T39 aV gZ).f2.f1) ((rd_T39 aV gZ).f2.f2) ((rd_T39 aV gZ).f3) _ _ ((rd_T39 aV gZ).f4) (wrap64 (a1 + 1)) q_ t14 b_ w0 _ (cXZ HB.out c2X) GB.out (cV6 HM.out bOR) aWP.out b5E.out A14.out).mono ?_); rintro e w18 ⟨rfl, c4R, b4K, bNS⟩; refine ⟨_, rfl, ?_⟩; replace aA := am_ (blk_kept (g := aX) (o := .cells #[.int .i64 aD, .int .i64 aI, .int .i64 aJ, .int .i64 aM, .string aN, .string aQ, .slice (some bUE) aV.length dJ] 39 (0, 0)) (bf7_ a0M (bkx_ aA.out)) b4K NGB.out); replace aSA := am_ (blk_kept (g := aW1) (o := .cells #[.int .i64 ((rd_T39 aV gZ).f0), .int .i64 ((rd_T39 aV gZ).f1), .int .i64 ((rd_T39 aV gZ).f2.f0), .int .i64 ((rd_T39 aV gZ).f2.f1), .string ((rd_T39 aV gZ).f2.f2), .string ((rd_T39 aV gZ).f3), .slice aUV ((rd_T39 aV gZ).f4).length aTE] 39 (0, 0)) (bp7_ (bkx_ aSA.out)) b4K bOR.out); have n1_ := am_ (kept_one (cXO (kk_ HK.out) GWK) b4K); clear HK HM HB; have HM := am_ c4R; have HK := n1_; have HB := am_ bNS; clear c4R b4K bNS n1_; (try clear hb); (try clear hb2); (try clear hk); (try clear hi)))
         go_roundg k2
         case measure => have := HJ3.out; have := HK2.out; omega
         case rel => exact ⟨(wrap64 (gZ + 1)), t14, rs_, H', ⟨by have := HJ3.out; have := HK2.out; omega⟩, ⟨bkx_ aA.out⟩, ⟨bb_⟩, ⟨mk_ HM.out⟩, ⟨kk_ HK.out⟩⟩
        ·rw [if_neg c13] at H
         exact nn_ H
       ·rw [if_neg c12] at H
        exact nn_ H
      ·rw [if_neg c11] at H
       have a15 := decide_eq_false c11
       clear c11
       go_wp2
       first | go_end0 | ((try simp only [Exit.inBlock, Exit.then]); refine bodyPost_ret (results_none rfl _ _ _) rfl ?_)
       (obtain rfl := Option.some.inj H; exact ⟨er_, mk_ HM.out, kk_ HK.out, bb_⟩)
   ·rw [if_neg c9] at H
    have yP := decide_eq_false c9
    clear c9
    go_wp2
    first | go_end0 | ((try simp only [Exit.inBlock, Exit.then]); refine bodyPost_ret (results_none rfl _ _ _) rfl ?_)
    (obtain rfl := Option.some.inj H; exact ⟨er_, mk_ HM.out, kk_ HK.out, bb_⟩)
/-- A number is among a map's keys just where the map has it. -/
theorem mem_intKeys {w : World} {b n : Nat} {D : DataW Unit} (hown : w.ownsMap Tryz.prog 3 (plainElem Tryz.prog 4) b n D) (x : Int) : x ∈ intKeys D ↔ Go.Maps.has D (.int .i64 x) = true := by
  obtain ⟨es, hD, hpw, _⟩ := hown.entries (Go.Maps.int_keyed Tryz.underlying3)
  obtain ⟨es', hD', hko⟩ := hown.keysOf
  obtain rfl : es = es' := by rw [hD] at hD'; simpa using hD'
  subst hD
  have hk : ∀ p ∈ es, ∃ x, p.1 = .int .i64 x := fun p hp => by obtain ⟨v, hv⟩ := hko p hp; obtain ⟨x, _, hx, _⟩ := Go.Maps.keyOf_i64 Tryz.underlying3 hv; exact ⟨x, hx⟩
  rw [Go.Maps.has_eq, List.any_eq_true]
  show x ∈ es.map (fun p => Go.intOf p.1) ↔ _
  rw [List.mem_map]
  constructor
  · rintro ⟨p, hp, rfl⟩
    obtain ⟨a, ha⟩ := hk p hp
    exact ⟨p, hp, by rw [ha]; simp [Lit.sameKey, Go.intOf]⟩
  · rintro ⟨p, hp, hs⟩
    obtain ⟨a, ha⟩ := hk p hp
    rw [ha] at hs
    exact ⟨p, hp, by rw [ha]; simpa [Lit.sameKey, Go.intOf] using hs⟩
/-- A row of ints of the call's own is read. -/
theorem ints_read {w : World} {base : Nat} {v : Value} {xs : List Int} (h : w.ownsRow base 3 1 v xs.length (xs.map encZ)) : ∃ A c, v = .slice A xs.length c ∧ xs.length ≤ c ∧ Kd.C (Kd.int .i64) w A xs.length xs := by
  have hR : (Kd.int .i64).R 3 w base (fun _ => True) v xs := by
    refine ⟨fun _ _ => trivial, xs.map encZ, h, by simp [show (Kd.int .i64).sz = 1 from rfl], fun j p hj => ?_⟩
    show ((xs.map encZ).drop (j * 1)).take 1 = [.int .i64 p]
    obtain ⟨hl, rfl⟩ := List.getElem?_eq_some_iff.1 hj
    rw [Nat.mul_one, List.drop_eq_getElem_cons (by simpa using hl)]
    simp
  exact Kd.R_reads hR
set_option maxHeartbeats 4000000 in
set_option maxRecDepth 100000 in
theorem UO.calls (k : Nat) (aD : Int) (aI : Int) (aJ : Int) (aM : Int) (aN : ByteArray) (aQ : ByteArray) (dL : Option Addr) (dJ : Nat) (aV : List (S39)) (s : List Int) (w : World) (eX : Kd.C gL w dL aV.length aV) (eU : aV.length ≤ dJ) (h : impl_columns.f k aD aI aJ aM aN aQ aV 0 [] = some s) (hs : s.length ≤ 1073741824) :
  Calls Tryz.prog 98 #[.agg #[.int .i64 aD, .int .i64 aI, .int .i64 aJ, .int .i64 aM, .string aN, .string aQ, .slice dL aV.length dJ]] w fun e w' => ∃ (A : Option Addr) (c : Nat) (ss : List Int), e = .returned (.slice A ss.length c) ∧ Kd.C (Kd.int .i64) w' A ss.length ss ∧ ss.length ≤ c ∧ (∀ x, x ∈ ss ↔ x ∈ s) ∧ Below w.heap.size w w' := by
 have hmm := @run_makeMap Tryz.prog
 have vN := Tryz.underlying39
 have gD := am_ eX
 have gW := am_ eU
 have HS := am_ hs
 have HF := am_ h
 clear eX eU hs h
 have HB := am_ (Below.refl w.heap.size w)
 go_enter Tryz.func98, Tryz.ntmps98
 go_wp2_with (first
  | ((with_reducible refine gate_dst (N := 1) rfl ?_); refine bx_ 1 #[.int .i64 aD, .int .i64 aI, .int .i64 aJ, .int .i64 aM, .string aN, .string aQ, .slice dL aV.length dJ] 39 ?_; intro g hg w5 hbox hb; have BK := am_ (heap_alloc_kept hbox (.map #[] 0)); have GW := gw_ hg; replace HB := bs_ hb; clear hb hbox hg; obtain ⟨jR, jT, lK, lT, lM, lU, lS, jU, jS, lW, lQ, lX, lL, lV⟩ := b7_ BK)
  | (go_at_call 119; refine (impl_columns.calls k aD aI aJ aM aN aQ dL dJ aV 0 [] s w5.heap.size w _ bb_ (below_size HB.out) ⟨.map [], World.ownsMap_made _ _ _ _, fun x => by simp [Go.Maps.has_eq]⟩ gD.out gW.out HF.out).mono ?_; rintro e w6 ⟨rfl, hM, _, hB⟩; clear HB; have HB := am_ hB; have HM := am_ hM; clear hM hB)
  | (go_at_call 121; refine (callsIn_wide.1 (Tryz.maps_Keys_A (some w5.heap.size) _)).mono ?_; rintro e w7 ⟨rfl, rfl⟩)
  | (go_at_call 120; obtain ⟨D_, ho_, hh_⟩ := HM.out; have hz_ := ho_.size_le; refine (callsIn_wide.1 (Tryz.slices_Sorted_A w5.heap.size s.length D_ _ w6 ho_ (by have := HS.out; unfold maxLen; omega) (by have := HS.out; omega))).mono ?_; rintro e w8 ⟨v, ss, rfl, hp, hrow, _, hb⟩; obtain ⟨A_, c_, hv_, hl_, hc_⟩ := ints_read (xs := ss.mergeSort (fun x y => decide (x ≤ y))) (by rw [List.length_mergeSort]; exact hrow); have HP := am_ (fun x : Int => ((List.mergeSort_perm ss (fun x y => decide (x ≤ y))).mem_iff.trans (hp.mem_iff.trans ((mem_intKeys ho_ x).trans (hh_ x))) : x ∈ ss.mergeSort (fun x y => decide (x ≤ y)) ↔ x ∈ s)); have HV := am_ hv_; have HL := am_ hl_; have HCC := am_ hc_; replace HB := bs_ hb; clear hp hrow hb ho_ hh_ hz_ hv_ hl_ hc_))
 go_ret
 exact ⟨A_, c_, _, by rw [HV.out]; rfl, HCC.out, HL.out, HP.out, bb_⟩

-- NOT PRINTED: function 99 (impl_isOver_1)

/-! ### impl_isOver: function 74 -/
-- by hand
def impl_isOver.f (k : Nat) (aD : Int) (aI : Int) (aJ : Int) (aM : Int) (aN : ByteArray) (aQ : ByteArray) (aV : List (S39)) (a1 : Int) : Option (Bool) := (impl_ExpOk.f k aD aI aJ aM aN aQ aV).bind fun t => if t = true then ((impl_columns.f k aD aI aJ aM aN aQ aV 0 []).bind fun s => if s.length ≤ 1073741824 then some (s.all (fun n => decide (n < a1))) else none) else some false
theorem allO_total {α : Type} (g : α → Bool) : ∀ xs : List α, allO (fun x => some (g x)) xs = some (xs.all g)
 | [] => rfl
 | x :: xs => by
  rw [allO, Option.bind_some, List.all_cons]
  cases g x with
  | true => rw [if_pos rfl, allO_total g xs, Bool.true_and]
  | false => rw [if_neg (by decide), Bool.false_and]
set_option maxHeartbeats 2000000 in
theorem isOver_cb (a1 : Int) (B : Nat) (xs : List Int) (w : World) (hB : B < w.heap.size) (hc : w.cell? ⟨B, 0, none⟩ = some (.int .i64 a1)) :
  CB Tryz.prog (Kd.int .i64) (fun cs => cs.headD .nilIface) 99 #[.pointer (some ⟨B, 0, none⟩)] (fun n => some (decide (n < a1))) xs w := by
 intro W x cs b hb _ hK hf
 obtain rfl := Option.some.inj hf
 obtain rfl : cs = [.int .i64 x] := hK
 have hc' : W.cell? ⟨B, 0, none⟩ = some (.int .i64 a1) := (hb.cell (p := ⟨B, 0, none⟩) hB).trans hc
 clear hf hb hc
 show Calls Tryz.prog 99 #[.int .i64 x, .pointer (some ⟨B, 0, none⟩)] W _
 go_enter Tryz.func99, Tryz.ntmps99
 go_wp2
 go_ret
 exact ⟨rfl, Below.refl _ _⟩
set_option maxHeartbeats 4000000 in
set_option maxRecDepth 100000 in
theorem impl_isOver.calls (k : Nat) (aD : Int) (aI : Int) (aJ : Int) (aM : Int) (aN : ByteArray) (aQ : ByteArray) (dL : Option Addr) (dJ : Nat) (aV : List (S39)) (a1 : Int) (r : Bool) (w : World) (eX : Kd.C gL w dL aV.length aV) (eU : aV.length ≤ dJ) (h : impl_isOver.f k aD aI aJ aM aN aQ aV a1 = some r) :
  Calls Tryz.prog 74 #[.agg #[.int .i64 aD, .int .i64 aI, .int .i64 aJ, .int .i64 aM, .string aN, .string aQ, .slice dL aV.length dJ], .int .i64 a1] w fun e w' => e = .returned (.bool r) ∧ Below w.heap.size w w' := by
 unfold impl_isOver.f at h
 obtain ⟨t, ht, h⟩ := Option.bind_eq_some_iff.1 h
 have vN := Tryz.underlying39
 have gD := am_ eX
 have gW := am_ eU
 have HT := am_ ht
 clear eX eU ht
 have HB := am_ (Below.refl w.heap.size w)
 cases t with
 | false =>
  rw [if_neg (by decide)] at h
  obtain rfl := Option.some.inj h
  clear h
  go_enter Tryz.func74, Tryz.ntmps74
  go_wp2_with (first
   | ((with_reducible refine gate_dst (N := 2) rfl ?_); refine bx_ 2 #[.int .i64 aD, .int .i64 aI, .int .i64 aJ, .int .i64 aM, .string aN, .string aQ, .slice dL aV.length dJ] 39 ?_; intro g hg w5 hbox hb; have BK := am_ hbox; have GW := gw_ hg; replace HB := bs_ hb; clear hb hbox hg)
   | ((with_reducible refine gate_dst (N := 3) rfl ?_); refine bx_ 3 #[.int .i64 a1] 3 ?_; intro g2 hg w6 hbox hb; have BK2 := am_ hbox; replace BK := bkb_ BK hb; replace HB := bs_ hb; clear hb hbox hg; obtain ⟨jR, jT, lK, lT, lM, lU, lS, jU, jS, lW, lQ, lX, lL, lV⟩ := b7_ BK)
   | (go_at_call 96; refine (impl_ExpOk.calls k aD aI aJ aM aN aQ dL dJ aV false _ (Kd.C_below gD.out HB.out) gW.out HT.out).mono ?_; rintro e w7 ⟨rfl, hb⟩; replace HB := bs_ hb; clear hb))
  go_ret
  exact ⟨er_, bb_⟩
 | true =>
  rw [if_pos rfl] at h
  obtain ⟨s, hs, h⟩ := Option.bind_eq_some_iff.1 h
  by_cases hl : s.length ≤ 1073741824
  case neg => rw [if_neg hl] at h; cases h
  rw [if_pos hl] at h
  have HCOL := am_ hs
  have HLEN := am_ hl
  have HRES := am_ (Option.some.inj h)
  clear h hs hl
  have eg : ∀ args w, (callFunc 99 args).run Tryz.prog w = .ok (.enter 99 args) w := enters_of Tryz.func99 (by kernel_rfl) rfl
  go_enter Tryz.func74, Tryz.ntmps74
  go_wp2_with (first
   | ((with_reducible refine gate_dst (N := 2) rfl ?_); refine bx_ 2 #[.int .i64 aD, .int .i64 aI, .int .i64 aJ, .int .i64 aM, .string aN, .string aQ, .slice dL aV.length dJ] 39 ?_; intro g hg w5 hbox hb; have BK := am_ hbox; have GW := gw_ hg; replace HB := bs_ hb; clear hb hbox hg)
   | ((with_reducible refine gate_dst (N := 3) rfl ?_); refine bx_ 3 #[.int .i64 a1] 3 ?_; intro g2 hg w6 hbox hb; have BK2 := am_ hbox; replace BK := bkb_ BK hb; replace HB := bs_ hb; clear hb hbox hg; obtain ⟨jR, jT, lK, lT, lM, lU, lS, jU, jS, lW, lQ, lX, lL, lV⟩ := b7_ BK)
   | (go_at_call 96; refine (impl_ExpOk.calls k aD aI aJ aM aN aQ dL dJ aV true _ (Kd.C_below gD.out HB.out) gW.out HT.out).mono ?_; rintro e w7 ⟨rfl, hb⟩; replace BK := bkb_ BK hb; replace BK2 := bkb_ BK2 hb; replace HB := bs_ hb; clear hb jR jT lK lT lM lU lS jU jS lW lQ lX lL lV; obtain ⟨jR, jT, lK, lT, lM, lU, lS, jU, jS, lW, lQ, lX, lL, lV⟩ := b7_ BK)
   | (go_at_call 98; refine (UO.calls k aD aI aJ aM aN aQ dL dJ aV s _ (Kd.C_below gD.out HB.out) gW.out HCOL.out HLEN.out).mono ?_; rintro e w8 ⟨A_, c_, ss, rfl, hcr, hcl, hmem, hb⟩; have HCR := am_ hcr; have HMEM := am_ hmem; replace BK2 := bkb_ BK2 hb; replace HB := bs_ hb; clear hb hcr hcl hmem)
   | (go_at_call 97; refine (U7.calls (fun n => some (decide (n < a1))) 99 #[.pointer (some ⟨g2, 0, none⟩)] eg A_ c_ ss (ss.all (fun n => decide (n < a1))) _ HCR.out (isOver_cb a1 g2 ss _ (blk_lt BK2.out) ((cell_of_block BK2.out 0).trans rfl)) (allO_total _ ss)).mono ?_; rintro e w9 ⟨rfl, hb⟩; replace HB := bs_ hb; clear hb))
  go_ret
  have e_ : ss.all (fun n => decide (n < a1)) = r := by
   rw [← HRES.out, Bool.eq_iff_iff, List.all_eq_true, List.all_eq_true]
   exact ⟨fun h x hx => h x ((HMEM.out x).2 hx), fun h x hx => h x ((HMEM.out x).1 hx)⟩
  exact ⟨by rw [← e_]; rfl, bb_⟩

-- NOT PRINTED: function 76 (impl_Plan_widthOf_1)

-- NOT PRINTED: function 78 (impl_Plan_widthOf_2)

end Go.Proofs.YtnobhkmpkichdaaGreat.PFnExactWidth
