-- WRITTEN BY xprint.py, a program of this session over the kit's printer: by nobody's hand
-- PRESSED4 -- PRESSED TWICE3 -- PRESSED TWICE
import Derived.Test.YtnobhkmpkichdaaGreatPress
import Derived.Test.YtnobhkmpkichdaaGreatPress3
import Derived.Test.YtnobhkmpkichdaaGreatPFnExactWidthx0
import Derived.Test.YtnobhkmpkichdaaGreatPFnExactWidthx3
import Derived.Test.YtnobhkmpkichdaaGreatPFnExactWidthx5
namespace Go.Proofs.YtnobhkmpkichdaaGreat.PFnExactWidth
set_option maxRecDepth 100000
open Go.RowKit Go.Proofs.YtnobhkmpkichdaaGreatW.PrintWords Go.Proofs.YtnobhkmpkichdaaGreatW.PrintLast Go.Proofs.YtnobhkmpkichdaaGreatW.PrintMore
attribute [local go_sem] max2_int min2_int max_two min_two max_three min_three max_four min_four
set_option linter.unusedVariables false
set_option linter.unusedSimpArgs false

/-! ### spec_ColsOf: function 69 -/
-- turned
mutual
def spec_ColsOf.j0 : Nat → List Int → Int → Int → Int → Int → ByteArray → ByteArray → List (S39) → Option (List Int)
 | 0, _, _, _, _, _, _, _, _ => none
 | k + 1, x3, GQ, IK, IY, IP, H7, I1, kJ => spec_ColsOf.l0 k x3 0 GQ IK IY IP H7 I1 kJ
def spec_ColsOf.l0 : Nat → List Int → Int → Int → Int → Int → Int → ByteArray → ByteArray → List (S39) → Option (List Int)
 | 0, _, _, _, _, _, _, _, _, _ => none
 | k + 1, x3, x4, GQ, IK, IY, IP, H7, I1, kJ => if x4 < (kJ.length : Int) then (if 0 ≤ x4 then ((spec_ColsOf.f k ((rd_T39 kJ x4).f0) ((rd_T39 kJ x4).f1) ((rd_T39 kJ x4).f2.f0) ((rd_T39 kJ x4).f2.f1) ((rd_T39 kJ x4).f2.f2) ((rd_T39 kJ x4).f3) ((rd_T39 kJ x4).f4)).bind fun a6J => (spec_ColsOf.l1 k x3 x4 a6J 0 GQ IK IY IP H7 I1 kJ)) else (none)) else (some x3)
def spec_ColsOf.l1 : Nat → List Int → Int → List Int → Int → Int → Int → Int → Int → ByteArray → ByteArray → List (S39) → Option (List Int)
 | 0, _, _, _, _, _, _, _, _, _, _, _ => none
 | k + 1, x3, x4, x5, x6, GQ, IK, IY, IP, H7, I1, kJ => if x6 < (x5.length : Int) then (if 0 ≤ x6 then ((spec_l03Add.f k x3 (rd x5 x6)).bind fun b59 => (spec_ColsOf.l1 k b59 x4 x5 (wrap64 (x6 + 1)) GQ IK IY IP H7 I1 kJ)) else (none)) else (spec_ColsOf.l0 k x3 (wrap64 (x4 + 1)) GQ IK IY IP H7 I1 kJ)
def spec_ColsOf.f : Nat → Int → Int → Int → Int → ByteArray → ByteArray → List (S39) → Option (List Int)
 | 0, _, _, _, _, _, _, _ => none
 | k + 1, aD, aI, aJ, aM, aN, aQ, aV => (some (([] : List Int) : List Int)).bind fun Z5 => (if aD = 0 then ((spec_l03Add.f k Z5 aI).bind fun aCX => (spec_ColsOf.j0 k aCX aD aI aJ aM aN aQ aV)) else (spec_ColsOf.j0 k Z5 aD aI aJ aM aN aQ aV))
end
set_option maxHeartbeats 8000000 in
theorem spec_ColsOf.calls (k : Nat) : ∀ (aD : Int) (aI : Int) (aJ : Int) (aM : Int) (aN : ByteArray) (aQ : ByteArray) (dL : Option Addr) (dJ : Nat) (aV : List (S39)) (r : List Int) (w : World) (eX : Kd.C gL w dL aV.length aV) (eU : aV.length ≤ dJ) (h : spec_ColsOf.f k aD aI aJ aM aN aQ aV = some r),
  Calls Tryz.prog 69 #[.agg #[.int .i64 aD, .int .i64 aI, .int .i64 aJ, .int .i64 aM, .string aN, .string aQ, .slice dL aV.length dJ]] w fun e w' => ∃ UR : Value, e = .returned (UR) ∧ Kd.R (Kd.int .i64) 3 w' w.heap.size (fun _ => True) UR r ∧ Below w.heap.size w w' := by
 induction k using Nat.strongRecOn with
 | _ k ih =>
 intro aD aI aJ aM aN aQ dL dJ aV r w eX eU h
 cases k with
 | zero => exact absurd h (by simp [spec_ColsOf.f])
 | succ k =>
 simp only [spec_ColsOf.f] at h
 have vN := Tryz.underlying39
 have gD := am_ eX
 have gW := am_ eU
 clear eX eU
 have HB := am_ (Below.refl w.heap.size w)
 have H : ((some (([] : List Int) : List Int)).bind fun Z5 => (if aD = 0 then ((spec_l03Add.f k Z5 aI).bind fun aCX => (spec_ColsOf.j0 k aCX aD aI aJ aM aN aQ aV)) else (spec_ColsOf.j0 k Z5 aD aI aJ aM aN aQ aV))) = some r := h
 clear h
 obtain ⟨Z5, aAN⟩ : ∃ y_ : List Int, y_ = (([] : List Int)) := ⟨_, rfl⟩
 replace H : (if aD = 0 then ((spec_l03Add.f k Z5 aI).bind fun aCX => (spec_ColsOf.j0 k aCX aD aI aJ aM aN aQ aV)) else (spec_ColsOf.j0 k Z5 aD aI aJ aM aN aQ aV)) = some r := by first | (rw [aAN]; with_reducible exact H) | (have gK := (Option.bind_some _ _).symm.trans H; rw [aAN]; with_reducible exact gK) | (have gK := (Option.bind_some _ _).symm.trans H; with_reducible exact gK) | with_reducible exact H | (rw [aAN]; exact H) | exact H
 have b89 := am_ aAN
 clear aAN
 have HC2 := am_ H
 clear H
 go_enter Tryz.func69, Tryz.ntmps69
 go_upto_if 10 with (first | ((with_reducible refine gate_dst (N := 1) rfl ?_); refine bx_ 1 #[.int .i64 aD, .int .i64 aI, .int .i64 aJ, .int .i64 aM, .string aN, .string aQ, .slice dL aV.length dJ] 39 ?_; intro aV0 hg w3 hbox hb; have mF := am_ (hbox); have cZP := gw_ hg; have bX2 := gw_ hg; replace HB := bs_ hb; clear hb hbox hg) | ((with_reducible refine gate_dst (N := 7) rfl ?_); refine Kd.R_lit (Kd.int .i64) _ 3 ?hg (N := 7) ?hd (xs := ([] : List Int)) (inner := []) (ok := fun _ => True) (okp := fun _ => True) ?hr ?hp (fun _ hk => hk) trivial (Below.refl _ _) (Nat.le_refl _) (by simp) ?_; (case hd => rfl); (case hg => rfl); (case hr => first | (go_simp; done) | (go_simp; rfl)); (case hp => exact (Reps.none _ _)); intro d3X w4 EF hb AV fV; clear AV fV; (first | rw [← b89.out] at EF | (simp only [Int.reduceToNat] at EF; rw [← b89.out] at EF)); have aCY := am_ (Kd.R_lower EF (below_size bb_)); replace mF := bkb_ mF hb; replace HB := bs_ hb; clear hb EF; obtain ⟨jR, jT, lK, lT, lM, lU, lS, jU, jS, lW, lQ, lX, lL, lV⟩ := b7_ mF))
 (try simp only [Act.put, List.setIfInBounds_toArray, List.set_cons_zero, List.set_cons_succ])
 go_cut [3] (fun v3 wc => ∃ (kq : Nat) (eQ : List Int), Aside0 (spec_ColsOf.j0 kq eQ aD aI aJ aM aN aQ aV = some r) ∧ Aside0 (kq ≤ k) ∧ Aside0 (Kd.R (Kd.int .i64) 3 wc w.heap.size (fun _ => True) v3 eQ) ∧ Aside0 (wc.heap[aV0]? = some (.cells #[.int .i64 aD, .int .i64 aI, .int .i64 aJ, .int .i64 aM, .string aN, .string aQ, (.slice dL aV.length dJ)] 39 (0, 0))) ∧ Aside0 (Below w.heap.size w wc))
 case first =>
  have H := HC2.out; clear HC2
  by_cases c7 : aD = 0
  ·rw [if_pos c7] at H
   have gJ : (aD == 0) = true := beq_iff_eq.mpr c7; have CF : (aD != 0) = false := bne_eq_false_iff_eq.mpr c7; clear c7; (first | rw [gJ] | (simp only [i64_w, i32_w]; rw [gJ]) | skip); replace H := bsi_ H; obtain ⟨aCX, A80, H⟩ := H
   try dsimp only at H
   have A8 := am_ A80; clear A80; have H' := am_ H; clear H; obtain ⟨nW, nV, yM, TQ, U0, TU, TS, nR, oL, yL, TC, TE, U9, UA⟩ := b7_ mF; obtain ⟨aNV, yQ, DR⟩ := Kd.R_slice aCY.out; subst DR
   go_wp2_with (first | ((with_reducible refine gate_callee (f := 92) rfl ?_); refine gsL_ (some 14) Tryz.func92 #[.slice aNV Z5.length yQ, .int .i64 aI] ?_; (with_reducible refine (spec_l03Add.calls k _ _ Z5 aI aCX w.heap.size _ (below_size bb_) ?aK A8.out).mono ?_); (case aK => exact rk_ (Kd.R_mono aCY.out (fun _ _ => trivial))); rintro e iC ⟨v182, rfl, ho0, hb⟩; refine ⟨_, rfl, ?_⟩; have bQU := am_ ho0; replace aCY := am_ (Kd.R_below (rk_ aCY.out) hb); replace mF := bkb_ mF hb; replace HB := bs_ hb; (try clear hb); (try clear ho0)))
   go_meet
   case rel => exact ⟨_, (aCX), H', ⟨by first | omega | exact Nat.le_refl _⟩, ⟨by (with_reducible repeat (first | apply Kd.R_alloc | apply Kd.R_drewN | apply Kd.R_drew)); exact Kd.R_mono bQU.out (fun _ hk => trivial)⟩, ⟨bkx_ mF.out⟩, ⟨bb_⟩⟩
  ·rw [if_neg c7] at H
   have gJ : (aD == 0) = false := beq_eq_false_iff_ne.mpr c7; have CF : (aD != 0) = true := bne_iff_ne.mpr c7; (first | rw [gJ] | (simp only [i64_w, i32_w]; rw [gJ]) | skip); have H' := am_ H; clear H
   go_wp2
   go_meet
   case rel => exact ⟨_, (Z5), H', ⟨by first | omega | exact Nat.le_refl _⟩, ⟨by (with_reducible repeat (first | apply Kd.R_alloc | apply Kd.R_drewN | apply Kd.R_drew)); exact aCY.out⟩, ⟨bkx_ mF.out⟩, ⟨bb_⟩⟩
 case rest =>
  clear HC2; (try clear p2); (try clear c6); (try clear c7); (try clear gJ); (try clear CF); (try clear c9); (try clear jR jT lK lT lM lU lS); (try clear nW nV yM TQ U0 TU TS); (try clear jU jS lW lQ lX lL lV); (try clear nR oL yL TC TE U9 UA); obtain ⟨kq, eQ, HA, HJ1, eG, mF, HB⟩ := hcut
  cases kq with
  | zero => exact absurd HA.out (by simp [spec_ColsOf.j0])
  | succ kj1 =>
   have H := HA.out; clear HA; simp only [spec_ColsOf.j0] at H; have H' := am_ H; clear H
   go_wp2
   go_loopg [3, 4] kj1 (fun kq v3 v4 w' => ∃ (b5N : List Int) (uZ : Int), v4 = .int .i64 uZ ∧ Aside0 (spec_ColsOf.l0 kq b5N uZ aD aI aJ aM aN aQ aV = some r) ∧ Aside0 (kq ≤ kj1) ∧ Aside0 (Kd.R (Kd.int .i64) 3 w' w.heap.size (fun _ => True) v3 b5N) ∧ Aside0 (w'.heap[aV0]? = some (.cells #[.int .i64 aD, .int .i64 aI, .int .i64 aJ, .int .i64 aM, .string aN, .string aQ, (.slice dL aV.length dJ)] 39 (0, 0))) ∧ Aside0 (Below w.heap.size w w'))
   case atStart => exact ⟨(eQ), (0), rs_, H', ⟨Nat.le_refl _⟩, ⟨by (with_reducible repeat (first | apply Kd.R_alloc | apply Kd.R_drewN | apply Kd.R_drew)); exact eG.out⟩, ⟨bkx_ mF.out⟩, ⟨bb_⟩⟩
   case round =>
    clear H'; (try clear p2); (try clear c6); (try clear c7); (try clear gJ); (try clear CF); (try clear c9); (try clear jR jT lK lT lM lU lS); (try clear nW nV yM TQ U0 TU TS); (try clear jU jS lW lQ lX lL lV); (try clear nR oL yL TC TE U9 UA); (try clear p2); obtain ⟨b5N, uZ, rfl, HA, HK2, eG, mF, HB⟩ := hrel
    cases gk with
    | zero => exact absurd HA.out (by simp [spec_ColsOf.l0])
    | succ k2 =>
     have H := HA.out; clear HA; simp only [spec_ColsOf.l0] at H
     by_cases c12 : uZ < (aV.length : Int)
     ·rw [if_pos c12] at H
      have yU := decide_eq_true c12; clear c12
      by_cases c13 : 0 ≤ uZ
      ·rw [if_pos c13] at H
       have G7 := decide_eq_true c13; clear c13; replace H := bsi_ H; obtain ⟨a6J, aAA, H⟩ := H
       try dsimp only at H
       have A14 := am_ aAA; clear aAA; have H' := am_ H; clear H; obtain ⟨mV, mI, oP, CG, BI, BX, zR, mK, mW, oQ, CW, C8, BS, BZ⟩ := b7_ mF; (have aZY : 0 ≤ (uZ : Int) := oa_); (have b3O : uZ < (aV.length : Int) := oa_); obtain ⟨bMI, bB2, bER, cVM, a4L, a6Q, a2C, a3I, a1H, a8Z, a4D, aJO, aK0⟩ := pE gD.out uZ aZY b3O; cases cVM; replace a4L := hb_ HB a4L; replace a6Q := hb_ HB a6Q; replace a2C := hb_ HB a2C; replace a3I := hb_ HB a3I; replace a1H := hb_ HB a1H; replace a8Z := hb_ HB a8Z; replace a4D := hb_ HB a4D; have b05 := am_ aK0; have aYP := am_ aJO; clear aK0 aJO; replace aZY := eq_true aZY; replace b3O := eq_true b3O
       go_wp2_with (first | ((with_reducible refine gate_callee (f := 69) rfl ?_); refine gsL_ (some 27) Tryz.func69 #[.agg #[.int .i64 ((rd_T39 aV uZ).f0), .int .i64 ((rd_T39 aV uZ).f1), .int .i64 ((rd_T39 aV uZ).f2.f0), .int .i64 ((rd_T39 aV uZ).f2.f1), .string ((rd_T39 aV uZ).f2.f2), .string ((rd_T39 aV uZ).f3), .slice bB2 ((rd_T39 aV uZ).f4).length bER]] ?_; (with_reducible refine (ih k2 (by have := HJ1.out; have := HK2.out; omega) ((rd_T39 aV uZ).f0) ((rd_T39 aV uZ).f1) ((rd_T39 aV uZ).f2.f0) ((rd_T39 aV uZ).f2.f1) ((rd_T39 aV uZ).f2.f2) ((rd_T39 aV uZ).f3) _ _ ((rd_T39 aV uZ).f4) a6J _ ?aK ?aT A14.out).mono ?_); (case aK => exact ck_ (Kd.C_below b05.out HB.out)); (case aT => exact aYP.out); rintro e w16 ⟨cVY, rfl, ho0, hb⟩; refine ⟨_, rfl, ?_⟩; have b7B := am_ (Kd.R_lower (Kd.R_new' ho0 (Kd.R_lt (rk_ eG.out))) (below_size bb_)); replace eG := am_ (Kd.R_elder' (rk_ eG.out) (Kd.R_base ho0) hb); replace mF := bkb_ mF hb; replace HB := bs_ hb; (try clear hb); (try clear ho0)))
       go_loopg [3, 6] k2 (fun kq v3 v6 w' => ∃ (aO3 : List Int) (a02 : Int), v6 = .int .i64 a02 ∧ Aside0 (spec_ColsOf.l1 kq aO3 uZ a6J a02 aD aI aJ aM aN aQ aV = some r) ∧ Aside0 (kq ≤ k2) ∧ Aside0 (Kd.R (Kd.int .i64) 3 w' w.heap.size (fun _ => True) v3 aO3) ∧ Aside0 (Kd.R (Kd.int .i64) 3 w' w.heap.size (fun _ => True) cVY a6J) ∧ Aside0 (w'.heap[aV0]? = some (.cells #[.int .i64 aD, .int .i64 aI, .int .i64 aJ, .int .i64 aM, .string aN, .string aQ, (.slice (some bMI) aV.length dJ)] 39 (0, 0))) ∧ Aside0 (Below w.heap.size w w'))
       case atStart => exact ⟨(b5N), (0), rs_, H', ⟨Nat.le_refl _⟩, ⟨by (with_reducible repeat (first | apply Kd.R_alloc | apply Kd.R_drewN | apply Kd.R_drew)); exact Kd.R_mono eG.out (fun _ hk => trivial)⟩, ⟨by (with_reducible repeat (first | apply Kd.R_alloc | apply Kd.R_drewN | apply Kd.R_drew)); exact Kd.R_mono b7B.out (fun _ hk => trivial)⟩, ⟨bkx_ mF.out⟩, ⟨bb_⟩⟩
       case round =>
        clear H'; (try clear c1); (try clear p1); (try clear q1); (try clear hx1); (try clear p2); (try clear c6); (try clear c7); (try clear gJ); (try clear CF); (try clear c9); (try clear c12); (try clear yU); (try clear c13); (try clear G7); (try clear mV mI oP CG BI BX zR); (try clear jR jT lK lT lM lU lS); (try clear nW nV yM TQ U0 TU TS); (try clear mK mW oQ CW C8 BS BZ); (try clear jU jS lW lQ lX lL lV); (try clear nR oL yL TC TE U9 UA); (try clear a4L); (try clear a6Q); (try clear a2C); (try clear a3I); (try clear a1H); (try clear a8Z); (try clear a4D); (try clear aZY); (try clear p2); (try clear b3O); (try clear eG); (try clear b7B); obtain ⟨aO3, a02, rfl, HA, HK3, eG, aO0, mF, HB⟩ := hrel
        cases gk with
        | zero => exact absurd HA.out (by simp [spec_ColsOf.l1])
        | succ k3 =>
         have H := HA.out; clear HA; simp only [spec_ColsOf.l1] at H
         by_cases c17 : a02 < (a6J.length : Int)
         ·rw [if_pos c17] at H
          have c2K := decide_eq_true c17; clear c17
          by_cases c18 : 0 ≤ a02
          ·rw [if_pos c18] at H
           have a0Q := decide_eq_true c18; clear c18; replace H := bsi_ H; obtain ⟨b59, bXT, H⟩ := H
           try dsimp only at H
           have A19 := am_ bXT; clear bXT; have H' := am_ H; clear H; obtain ⟨d45, d2Y, cV4⟩ := Kd.R_slice aO0.out; subst cV4; (have bF5 : 0 ≤ (a02 : Int) := oa_); (have bBK : a02 < (a6J.length : Int) := oa_); obtain ⟨cZ9, cVS, cSH⟩ := Kd.at_int (Kd.R_reads' aO0.out).2.2 a02 bF5 bBK; cases cVS; replace bF5 := eq_true bF5; replace bBK := eq_true bBK; obtain ⟨c3W, bWJ, b9K⟩ := Kd.R_slice eG.out; subst b9K
           go_wp2_with (first | ((with_reducible refine gate_callee (f := 92) rfl ?_); refine gsL_ (some 39) Tryz.func92 #[.slice c3W aO3.length bWJ, .int .i64 (rd a6J a02)] ?_; (with_reducible refine (spec_l03Add.calls k3 _ _ aO3 (rd a6J a02) b59 w.heap.size _ (below_size bb_) ?aK A19.out).mono ?_); (case aK => exact rk_ (Kd.R_mono eG.out (fun _ _ => trivial))); rintro e w22 ⟨d2W, rfl, ho0, hb⟩; refine ⟨_, rfl, ?_⟩; have c3S := am_ ho0; replace eG := am_ (Kd.R_below (rk_ eG.out) hb); replace aO0 := am_ (Kd.R_below (rk_ aO0.out) hb); replace mF := bkb_ mF hb; replace HB := bs_ hb; (try clear hb); (try clear ho0)))
           go_roundg k3
           case measure => have := HJ1.out; have := HK2.out; have := HK3.out; omega
           case rel => exact ⟨(b59), (wrap64 (a02 + 1)), rs_, H', ⟨by have := HJ1.out; have := HK2.out; have := HK3.out; omega⟩, ⟨by (with_reducible repeat (first | apply Kd.R_alloc | apply Kd.R_drewN | apply Kd.R_drew)); exact Kd.R_mono c3S.out (fun _ hk => trivial)⟩, ⟨by (with_reducible repeat (first | apply Kd.R_alloc | apply Kd.R_drewN | apply Kd.R_drew)); exact Kd.R_mono aO0.out (fun _ hk => trivial)⟩, ⟨bkx_ mF.out⟩, ⟨bb_⟩⟩
          ·rw [if_neg c18] at H
           exact nn_ H
         ·rw [if_neg c17] at H
          have c2K := decide_eq_false c17; clear c17; have H' := am_ H; clear H; obtain ⟨d4X, d4C, cWK⟩ := Kd.R_slice aO0.out; subst cWK
          go_wp2
          go_roundg k3
          case measure => have := HJ1.out; have := HK2.out; have := HK3.out; omega
          case rel => exact ⟨(aO3), (wrap64 (uZ + 1)), rs_, H', ⟨by have := HJ1.out; have := HK2.out; have := HK3.out; omega⟩, ⟨by (with_reducible repeat (first | apply Kd.R_alloc | apply Kd.R_drewN | apply Kd.R_drew)); exact Kd.R_mono eG.out (fun _ hk => trivial)⟩, ⟨bkx_ mF.out⟩, ⟨bb_⟩⟩
      ·rw [if_neg c13] at H
       exact nn_ H
     ·rw [if_neg c12] at H
      have yU := decide_eq_false c12; clear c12; obtain rfl := Option.some.inj H; obtain ⟨VJ, V3, VL, a3O, a5L, a2B, a8Q, V6, VC, VG, a9C, a1V, a3C, a9B⟩ := b7_ mF
      go_wp2
      go_ret
      (exact ⟨_, rr_, by (with_reducible repeat (first | apply Kd.R_alloc | apply Kd.R_drewN | apply Kd.R_drew)); exact eG.out, by repeat (first | (with_reducible first | exact HB.out | apply below_alloc | apply pw_below_drewN | apply below_drew1 | refine below_set ?_ bX2.out) | exact HB.out)⟩)

/-! ### spec_ValueOk: function 112 -/
def spec_ValueOk.f (aD : Int) (aI : Int) (aJ : ByteArray) : Option (Bool) := if aD = 0 then (if aI = 0 then (some (aJ.toList == ([] : List UInt8))) else (some false)) else (if aD = 1 then (some (aJ.toList == ([] : List UInt8))) else (if aD = 2 then ((spec_l01In.f aI 0 1).bind fun t193 => (if t193 = true then (some (aJ.toList == ([] : List UInt8))) else (some false))) else (if aD = 3 then (if aI = 0 then (some (decide ((aJ.size : Int) ≤ 100))) else (some false)) else (some false))))
set_option maxHeartbeats 8000000 in
theorem spec_ValueOk.calls (aD : Int) (aI : Int) (aJ : ByteArray) (r : Bool) (w : World) (h : spec_ValueOk.f aD aI aJ = some r) :
  Calls Tryz.prog 112 #[.agg #[.int .i64 aD, .int .i64 aI, .string aJ]] w fun e w' => e = .returned (.bool r) ∧ Below w.heap.size w w' := by
 have XJ := Tryz.underlying36
 have HB := am_ (Below.refl w.heap.size w)
 have H : (if aD = 0 then (if aI = 0 then (some (aJ.toList == ([] : List UInt8))) else (some false)) else (if aD = 1 then (some (aJ.toList == ([] : List UInt8))) else (if aD = 2 then ((spec_l01In.f aI 0 1).bind fun t193 => (if t193 = true then (some (aJ.toList == ([] : List UInt8))) else (some false))) else (if aD = 3 then (if aI = 0 then (some (decide ((aJ.size : Int) ≤ 100))) else (some false)) else (some false))))) = some r := h
 clear h
 by_cases c2 : aD = 0
 ·rw [if_pos c2] at H
  have JI : (aD == 0) = true := beq_iff_eq.mpr c2; have JD : (aD != 0) = false := bne_eq_false_iff_eq.mpr c2; clear c2
  by_cases c3 : aI = 0
  ·rw [if_pos c3] at H
   have fB : (aI == 0) = true := beq_iff_eq.mpr c3; have jG : (aI != 0) = false := bne_eq_false_iff_eq.mpr c3; clear c3; obtain rfl := Option.some.inj H
   go_enter Tryz.func112, Tryz.ntmps112
   go_wp2_with (first | ((with_reducible refine gate_dst (N := 1) rfl ?_); (try (refine gate_guard (by rfl) ?_; dsimp only)); refine bx_ 1 #[.int .i64 aD, .int .i64 aI, .string aJ] 36 ?_; intro X9 hg w4 hbox hb; have vT := am_ (hbox); have WU := gw_ hg; have a0B := gw_ hg; replace HB := bs_ hb; clear hb hbox hg; obtain ⟨TI, U2, TY, TT, TV, U1⟩ := b3_ vT))
   go_ret
   exact ⟨er_, bb_⟩
  ·rw [if_neg c3] at H
   have fB : (aI == 0) = false := beq_eq_false_iff_ne.mpr c3; have jG : (aI != 0) = true := bne_iff_ne.mpr c3; obtain rfl := Option.some.inj H
   go_enter Tryz.func112, Tryz.ntmps112
   go_wp2_with (first | ((with_reducible refine gate_dst (N := 1) rfl ?_); (try (refine gate_guard (by rfl) ?_; dsimp only)); refine bx_ 1 #[.int .i64 aD, .int .i64 aI, .string aJ] 36 ?_; intro X9 hg w6 hbox hb; have vT := am_ (hbox); have WU := gw_ hg; have a0B := gw_ hg; replace HB := bs_ hb; clear hb hbox hg; obtain ⟨ET, F6, JB, FP, F5, J9⟩ := b3_ vT))
   go_ret
   exact ⟨er_, bb_⟩
 ·rw [if_neg c2] at H
  have JI : (aD == 0) = false := beq_eq_false_iff_ne.mpr c2; have JD : (aD != 0) = true := bne_iff_ne.mpr c2
  by_cases c8 : aD = 1
  ·rw [if_pos c8] at H
   have LG : (aD == 1) = true := beq_iff_eq.mpr c8; have aBL : (aD != 1) = false := bne_eq_false_iff_eq.mpr c8; clear c8; obtain rfl := Option.some.inj H
   go_enter Tryz.func112, Tryz.ntmps112
   go_wp2_with (first | ((with_reducible refine gate_dst (N := 1) rfl ?_); (try (refine gate_guard (by rfl) ?_; dsimp only)); refine bx_ 1 #[.int .i64 aD, .int .i64 aI, .string aJ] 36 ?_; intro X9 hg w9 hbox hb; have vT := am_ (hbox); have WU := gw_ hg; have a0B := gw_ hg; replace HB := bs_ hb; clear hb hbox hg; obtain ⟨iM, iE, jW, iJ, iN, kF⟩ := b3_ vT))
   go_ret
   exact ⟨er_, bb_⟩
  ·rw [if_neg c8] at H
   have LG : (aD == 1) = false := beq_eq_false_iff_ne.mpr c8; have aBL : (aD != 1) = true := bne_iff_ne.mpr c8
   by_cases c11 : aD = 2
   ·rw [if_pos c11] at H
    have a15 : (aD == 2) = true := beq_iff_eq.mpr c11; have aVT : (aD != 2) = false := bne_eq_false_iff_eq.mpr c11; clear c11; replace H := bsi_ H; obtain ⟨t193, KF, H⟩ := H
    try dsimp only at H
    have A12 := am_ KF; clear KF
    by_cases c13 : t193 = true
    ·subst c13
     rw [if_pos rfl] at H; obtain rfl := Option.some.inj H
     go_enter Tryz.func112, Tryz.ntmps112
     go_wp2_with (first | ((with_reducible refine gate_dst (N := 1) rfl ?_); (try (refine gate_guard (by rfl) ?_; dsimp only)); refine bx_ 1 #[.int .i64 aD, .int .i64 aI, .string aJ] 36 ?_; intro X9 hg w14 hbox hb; have vT := am_ (hbox); have WU := gw_ hg; have a0B := gw_ hg; replace HB := bs_ hb; clear hb hbox hg; obtain ⟨mV, mI, oP, mK, mW, oQ⟩ := b3_ vT) | ((with_reducible refine gate_callee (f := 50) rfl ?_); refine gsL_ (some 24) Tryz.func50 #[.int .i64 aI, .int .i64 0, .int .i64 1] ?_; (with_reducible refine (spec_l01In.calls aI 0 1 true _ A12.out).mono ?_); rintro e w' ⟨rfl, ⟨nd, rfl⟩⟩; refine ⟨_, rfl, ?_⟩))
     go_ret
     exact ⟨er_, bb_⟩
    ·replace c13 := Bool.eq_false_iff.mpr c13
     subst c13; (rw [if_neg (show ¬ (false = true) by decide)] at H); obtain rfl := Option.some.inj H
     go_enter Tryz.func112, Tryz.ntmps112
     go_wp2_with (first | ((with_reducible refine gate_dst (N := 1) rfl ?_); (try (refine gate_guard (by rfl) ?_; dsimp only)); refine bx_ 1 #[.int .i64 aD, .int .i64 aI, .string aJ] 36 ?_; intro X9 hg w16 hbox hb; have vT := am_ (hbox); have WU := gw_ hg; have a0B := gw_ hg; replace HB := bs_ hb; clear hb hbox hg; obtain ⟨pO, oO, qL, pM, o6, qH⟩ := b3_ vT) | ((with_reducible refine gate_callee (f := 50) rfl ?_); refine gsL_ (some 24) Tryz.func50 #[.int .i64 aI, .int .i64 0, .int .i64 1] ?_; (with_reducible refine (spec_l01In.calls aI 0 1 false _ A12.out).mono ?_); rintro e w' ⟨rfl, ⟨nd, rfl⟩⟩; refine ⟨_, rfl, ?_⟩))
     go_ret
     exact ⟨er_, bb_⟩
   ·rw [if_neg c11] at H
    have a15 : (aD == 2) = false := beq_eq_false_iff_ne.mpr c11; have aVT : (aD != 2) = true := bne_iff_ne.mpr c11
    by_cases c18 : aD = 3
    ·rw [if_pos c18] at H
     have a0Q : (aD == 3) = true := beq_iff_eq.mpr c18; have aSV : (aD != 3) = false := bne_eq_false_iff_eq.mpr c18; clear c18
     by_cases c19 : aI = 0
     ·rw [if_pos c19] at H
      have UM : (aI == 0) = true := beq_iff_eq.mpr c19; have a0K : (aI != 0) = false := bne_eq_false_iff_eq.mpr c19; clear c19; obtain rfl := Option.some.inj H
      go_enter Tryz.func112, Tryz.ntmps112
      go_wp2_with (first | ((with_reducible refine gate_dst (N := 1) rfl ?_); (try (refine gate_guard (by rfl) ?_; dsimp only)); refine bx_ 1 #[.int .i64 aD, .int .i64 aI, .string aJ] 36 ?_; intro X9 hg w20 hbox hb; have vT := am_ (hbox); have WU := gw_ hg; have a0B := gw_ hg; replace HB := bs_ hb; clear hb hbox hg; obtain ⟨xW, xY, IE, wS, xV, IU⟩ := b3_ vT))
      go_ret
      exact ⟨er_, bb_⟩
     ·rw [if_neg c19] at H
      have UM : (aI == 0) = false := beq_eq_false_iff_ne.mpr c19; have a0K : (aI != 0) = true := bne_iff_ne.mpr c19; obtain rfl := Option.some.inj H
      go_enter Tryz.func112, Tryz.ntmps112
      go_wp2_with (first | ((with_reducible refine gate_dst (N := 1) rfl ?_); (try (refine gate_guard (by rfl) ?_; dsimp only)); refine bx_ 1 #[.int .i64 aD, .int .i64 aI, .string aJ] 36 ?_; intro X9 hg w22 hbox hb; have vT := am_ (hbox); have WU := gw_ hg; have a0B := gw_ hg; replace HB := bs_ hb; clear hb hbox hg; obtain ⟨lC, kV, kX, l7, kZ, kW⟩ := b3_ vT))
      go_ret
      exact ⟨er_, bb_⟩
    ·rw [if_neg c18] at H
     have a0Q : (aD == 3) = false := beq_eq_false_iff_ne.mpr c18; have aSV : (aD != 3) = true := bne_iff_ne.mpr c18; obtain rfl := Option.some.inj H
     go_enter Tryz.func112, Tryz.ntmps112
     go_wp2_with (first | ((with_reducible refine gate_dst (N := 1) rfl ?_); (try (refine gate_guard (by rfl) ?_; dsimp only)); refine bx_ 1 #[.int .i64 aD, .int .i64 aI, .string aJ] 36 ?_; intro X9 hg w24 hbox hb; have vT := am_ (hbox); have WU := gw_ hg; have a0B := gw_ hg; replace HB := bs_ hb; clear hb hbox hg; obtain ⟨mU, mX, pQ, mP, mR, oJ⟩ := b3_ vT))
     go_ret
     exact ⟨er_, bb_⟩

/-! ### spec_l03Has: function 113 -/
def spec_l03Has.l0 : Nat → List ByteArray → ByteArray → Int → Option (Bool)
 | 0, _, _, _ => none
 | k + 1, x0, x1, x5 => if x5 < (x0.length : Int) then (if 0 ≤ x5 then (if (rdOf ByteArray.empty x0 x5).toList = x1.toList then (some true) else (spec_l03Has.l0 k x0 x1 (wrap64 (x5 + 1)))) else (none)) else (some false)
def spec_l03Has.f (k : Nat) (l0 : List ByteArray) (a1 : ByteArray) : Option (Bool) := spec_l03Has.l0 k l0 a1 0
set_option maxHeartbeats 8000000 in
theorem spec_l03Has.calls (k : Nat) (A0 : Option Addr) (c0 : Nat) (l0 : List ByteArray) (a1 : ByteArray) (r : Bool) (w : World) (hr0 : Kd.C Kd.string w A0 l0.length l0) (hc0 : l0.length ≤ c0) (h : spec_l03Has.f k l0 a1 = some r) :
  Calls Tryz.prog 113 #[.slice A0 l0.length c0, .string a1] w fun e w' => e = .returned (.bool r) ∧ Drawn0 w w' := by
 have jE := am_ hr0
 have wH := am_ hc0
 clear hr0 hc0
 have H : (spec_l03Has.l0 k l0 a1 0) = some r := h
 clear h
 have H' := am_ H
 clear H
 go_enter Tryz.func113, Tryz.ntmps113
 go_wp2
 go_loopg [5] k (fun kq v5 w' => ∃ (aC : Int), v5 = .int .i64 aC ∧ Aside0 (spec_l03Has.l0 kq l0 a1 aC = some r) ∧ Aside0 (kq ≤ k) ∧ Drawn0 w w')
 case atStart => exact ⟨(0), rs_, H', ⟨Nat.le_refl _⟩, by repeat (first | exact Drawn0.refl _ | apply Drawn0.step)⟩
 case round =>
  clear H'; (try clear c1); (try clear p2); obtain ⟨aC, rfl, HA, kY, ⟨m1, rfl⟩⟩ := hrel
  cases gk with
  | zero => exact absurd HA.out (by simp [spec_l03Has.l0])
  | succ k1 =>
   have H := HA.out; clear HA; simp only [spec_l03Has.l0] at H
   by_cases c3 : aC < (l0.length : Int)
   ·rw [if_pos c3] at H
    have fB := decide_eq_true c3; clear c3
    by_cases c4 : 0 ≤ aC
    ·rw [if_pos c4] at H
     have gB := decide_eq_true c4; clear c4
     by_cases c5 : (rdOf ByteArray.empty l0 aC).toList = a1.toList
     ·rw [if_pos c5] at H
      have pV : ((rdOf ByteArray.empty l0 aC).toList == a1.toList) = true := beq_iff_eq.mpr c5; have TB : ((rdOf ByteArray.empty l0 aC).toList != a1.toList) = false := bne_eq_false_iff_eq.mpr c5; clear c5; obtain rfl := Option.some.inj H; (have aFO : 0 ≤ (aC : Int) := oa_); (have aDW : aC < (l0.length : Int) := oa_); obtain ⟨bWV, bF0, b47⟩ := Kd.at_string jE.out aC aFO aDW; cases bF0; replace aFO := eq_true aFO; replace aDW := eq_true aDW
      go_wp2
      go_ret
      (exact ⟨by first | rfl | (simp; done) | (simp [*]; done), by repeat (first | exact Drawn0.refl _ | apply Drawn0.step)⟩)
     ·rw [if_neg c5] at H
      have pV : ((rdOf ByteArray.empty l0 aC).toList == a1.toList) = false := beq_eq_false_iff_ne.mpr c5; have TB : ((rdOf ByteArray.empty l0 aC).toList != a1.toList) = true := bne_iff_ne.mpr c5; have H' := am_ H; clear H; (have aFO : 0 ≤ (aC : Int) := oa_); (have aDW : aC < (l0.length : Int) := oa_); obtain ⟨bWV, bF0, b47⟩ := Kd.at_string jE.out aC aFO aDW; cases bF0; replace aFO := eq_true aFO; replace aDW := eq_true aDW
      go_wp2
      go_roundg k1
      case measure => have := kY.out; omega
      case rel => exact ⟨(wrap64 (aC + 1)), rs_, H', ⟨by have := kY.out; omega⟩, by repeat (first | exact Drawn0.refl _ | apply Drawn0.step)⟩
    ·rw [if_neg c4] at H
     exact nn_ H
   ·rw [if_neg c3] at H
    have fB := decide_eq_false c3; clear c3; obtain rfl := Option.some.inj H
    go_wp2
    go_ret
    (exact ⟨by first | rfl | (simp; done) | (simp [*]; done), by repeat (first | exact Drawn0.refl _ | apply Drawn0.step)⟩)

end Go.Proofs.YtnobhkmpkichdaaGreat.PFnExactWidth
