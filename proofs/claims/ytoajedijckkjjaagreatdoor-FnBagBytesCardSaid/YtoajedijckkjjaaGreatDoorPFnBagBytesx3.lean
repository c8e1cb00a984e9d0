-- WRITTEN BY xprint.py, a program of this session over the kit's printer: by nobody's hand
-- PRESSED4 -- PRESSED TWICE3 -- PRESSED TWICE
import Derived.Test.YtoajedijckkjjaaGreatDoorPress
import Derived.Test.YtoajedijckkjjaaGreatDoorPress3
import Derived.Test.YtoajedijckkjjaaGreatDoorPFnBagBytesx0
import Derived.Test.YtoajedijckkjjaaGreatDoorPFnBagBytesx2
namespace Go.Proofs.YtoajedijckkjjaaGreatDoor.PFnBagBytes
open Go.RowKit Go.Proofs.YtoajedijckkjjaaGreatDoorW.PrintWords Go.Proofs.YtoajedijckkjjaaGreatDoorW.PrintLast Go.Proofs.YtoajedijckkjjaaGreatDoorW.PrintMore
attribute [local go_sem] max2_int min2_int max_two min_two max_three min_three max_four min_four
set_option linter.unusedVariables false
set_option linter.unusedSimpArgs false
/-! ### impl_BagOk: function 17 -/
mutual
def impl_BagOk.j0 : Nat → Bool → Int → List (S47) → Option (Bool)
 | 0, _, _, _ => none
 | k + 1, x14, x286000, x286001 => if x14 = true then (some false) else (impl_BagOk.l0 k x286001 (x286001.length : Int) 0 x286000 x286001)
def impl_BagOk.l0 : Nat → List (S47) → Int → Int → Int → List (S47) → Option (Bool)
 | 0, _, _, _, _, _ => none
 | k + 1, x16, x17, x18, x286000, x286001 => if x18 < x17 then (if 0 ≤ x18 then (if x18 < (x16.length : Int) then ((impl_isRow.f ((rd_T47 x16 x18).f0) x286000).bind fun t289 => (if t289 = true then (if ((rd_T47 x16 x18).f1) = 0 then (some false) else ((impl_within.f ((rd_T47 x16 x18).f1) (-1000000000) 1000000000).bind fun t290 => (if t290 = true then (if x18 > 0 then (if 0 ≤ (wrap64 (x18 - 1)) then (if (wrap64 (x18 - 1)) < (x286001.length : Int) then ((impl_CompareRow.f k ((rd_T47 x286001 (wrap64 (x18 - 1))).f0) ((rd_T47 x16 x18).f0)).bind fun t292 => (if t292 ≥ 0 then (some false) else (impl_BagOk.l0 k x16 x17 (wrap64 (x18 + 1)) x286000 x286001))) else (none)) else (none)) else (impl_BagOk.l0 k x16 x17 (wrap64 (x18 + 1)) x286000 x286001)) else (some false)))) else (some false))) else (none)) else (none)) else (some true)
end
def impl_BagOk.f (k : Nat) (a0_0 : Int) (l0_1 : List (S47)) : Option (Bool) := (impl_within.f a0_0 0 12).bind fun t286 => (if t286 = true then (impl_BagOk.j0 k (decide ((l0_1.length : Int) > 400)) a0_0 l0_1) else (impl_BagOk.j0 k true a0_0 l0_1))
def impl_BagOk.T6 : Bool × List (List Nat × List Nat) := (true, [([], []), ([0], [0]), ([], []), ([2], [2]), ([1, 3], [1, 3]), ([4], [4]), ([5, 4], [5]), ([6], [6]), ([7, 6], [6, 7]), ([8, 6], [6, 8]), ([6, 9], [6, 9]), ([10, 6], [10]), ([11], [11]), ([12, 11], [11, 12]), ([13, 11, 11], [11, 13]), ([14, 11], [11, 14]), ([11, 15], [11, 15]), ([16, 14], [16]), ([17], [17]), ([18, 17], [17, 18]), ([19, 17, 17], [17, 19]), ([20], [20]), ([21, 20], [20, 21]), ([20], [20]), ([23, 20], [20, 23]), ([22, 24, 20], [20, 22, 24]), ([25, 20], [20, 25]), ([26, 20], [20, 26]), ([20], [20]), ([28, 20], [20, 28]), ([27, 29, 20, 20], [20, 27, 29]), ([30, 20], [20, 30]), ([20, 31, 17], [17, 20, 31]), ([17, 32], [17, 32])])
def impl_BagOk.B6 : List Nat := [0, 1, 0, 4, 15, 31, 63, 127, 255, 511, 1023, 2047, 4095, 8191, 16383, 32767, 65535, 131071, 262143, 524287, 1048575, 2097151, 4194303, 2097151, 10485759, 33554431, 67108863, 134217727, 2097151, 270532607, 1073741823, 2147483647, 4294967295, 8589934591]
theorem impl_BagOk.tab6 : rtab .any (opsOf Tryz.f17 6) = impl_BagOk.T6 := by kernel_rfl
theorem impl_BagOk.bits6 : waitsOk impl_BagOk.T6.2 impl_BagOk.B6 = true := by kernel_rfl
set_option maxHeartbeats 8000000 in
set_option maxRecDepth 100000 in
theorem impl_BagOk.calls (k : Nat) (a0_0 : Int) (A0_1 : Option Addr) (c0_1 : Nat) (l0_1 : List (S47)) (r : Bool) (w : World) (hr0_1 : Kd.C k47 w A0_1 l0_1.length l0_1) (hc0_1 : l0_1.length ≤ c0_1) (h : impl_BagOk.f k a0_0 l0_1 = some r) :
  Calls Tryz.prog 17 #[.agg #[.int .i64 a0_0, .slice A0_1 l0_1.length c0_1]] w fun e w' => e = .returned (.bool r) ∧ Below w.heap.size w w' := by
 have hu26 := Tryz.underlying26
 have hu47 := Tryz.underlying47
 have HR0_1 := am_ hr0_1
 have HC0_1 := am_ hc0_1
 clear hr0_1 hc0_1
 have HB := am_ (Below.refl w.heap.size w)
 have H : ((impl_within.f a0_0 0 12).bind fun t286 => (if t286 = true then (impl_BagOk.j0 k (decide ((l0_1.length : Int) > 400)) a0_0 l0_1) else (impl_BagOk.j0 k true a0_0 l0_1))) = some r := h
 clear h
 have HC2 := am_ H
 clear H
 go_enter Tryz.func17, Tryz.ntmps17
 go_upto_region 1 with (first | ((with_reducible refine gate_dst (N := 1) rfl ?_); (try (refine gate_guard (by rfl) ?_; dsimp only)); refine bx_ 1 #[.int .i64 a0_0, .slice A0_1 l0_1.length c0_1] 26 ?_; intro gb285 hg w3 hbox hb; have BK285 := am_ (hbox); have GW285 := gw_ hg; have GE285 := gw_ hg; replace HB := bs_ hb; clear hb hbox hg))
 (try simp only [Act.put, List.setIfInBounds_toArray, List.set_cons_zero, List.set_cons_succ])
 go_cut [14] (fun v14 wc => ∃ (kq : Nat) (x14_1 : Bool), v14 = .bool x14_1 ∧ Aside0 (impl_BagOk.j0 kq x14_1 a0_0 l0_1 = some r) ∧ Aside0 (kq ≤ k) ∧ Aside0 (wc.heap[gb285]? = some (.cells #[.int .i64 a0_0, (.slice A0_1 l0_1.length c0_1)] 26 (0, 0))) ∧ Aside0 (Below w.heap.size w wc))
 case first =>
  have H := HC2.out; clear HC2; replace H := bsi_ H; obtain ⟨t286, A40, H⟩ := H
  try dsimp only at H
  have A4 := am_ A40; clear A40
  by_cases c5 : t286 = true
  ·subst c5
   rw [if_pos rfl] at H; have H' := am_ H; clear H; obtain ⟨hcz6_0, hcz6_1, hfz6_0, hfz6_1⟩ := b2_ BK285
   go_wp2_with (first | ((with_reducible refine gate_callee (f := 42) rfl ?_); refine gsL_ (some 7) Tryz.func42 #[.int .i64 a0_0, .int .i64 0, .int .i64 12] ?_; (with_reducible refine (impl_within.calls a0_0 0 12 true _ A4.out).mono ?_); rintro e w' ⟨rfl, ⟨nd, rfl⟩⟩; refine ⟨_, rfl, ?_⟩))
   go_meet
   case rel => exact ⟨_, (decide ((l0_1.length : Int) > 400)), rs_, H', ⟨by first | omega | exact Nat.le_refl _⟩, ⟨bkx_ BK285.out⟩, ⟨bb_⟩⟩
  ·replace c5 := Bool.eq_false_iff.mpr c5
   subst c5; (rw [if_neg (show ¬ (false = true) by decide)] at H); have H' := am_ H; clear H; obtain ⟨hcz7_0, hcz7_1, hfz7_0, hfz7_1⟩ := b2_ BK285
   go_wp2_with (first | ((with_reducible refine gate_callee (f := 42) rfl ?_); refine gsL_ (some 7) Tryz.func42 #[.int .i64 a0_0, .int .i64 0, .int .i64 12] ?_; (with_reducible refine (impl_within.calls a0_0 0 12 false _ A4.out).mono ?_); rintro e w' ⟨rfl, ⟨nd, rfl⟩⟩; refine ⟨_, rfl, ?_⟩))
   go_meet
   case rel => exact ⟨_, (true), rs_, H', ⟨by first | omega | exact Nat.le_refl _⟩, ⟨bkx_ BK285.out⟩, ⟨bb_⟩⟩
 case rest =>
  clear HC2; (try clear c1); (try clear p2); (try clear c4); (try clear c5); (try clear hcz6_0 hcz6_1); (try clear hcz7_0 hcz7_1); (try clear hfz6_0 hfz6_1); (try clear hfz7_0 hfz7_1); obtain ⟨kq, x14_1, rfl, HA, HJ1, BK285, HB⟩ := hcut
  cases kq with
  | zero => exact absurd HA.out (by simp [impl_BagOk.j0])
  | succ kj1 =>
   have H := HA.out; clear HA; simp only [impl_BagOk.j0] at H
   by_cases c8 : x14_1 = true
   ·subst c8
    rw [if_pos rfl] at H; obtain rfl := Option.some.inj H
    go_wp2
    go_ret
    exact ⟨er_, bb_⟩
   ·replace c8 := Bool.eq_false_iff.mpr c8
    subst c8; (rw [if_neg (show ¬ (false = true) by decide)] at H); have H' := am_ H; clear H; obtain ⟨hcz9_0, hcz9_1, hfz9_0, hfz9_1⟩ := b2_ BK285
    go_wp2
    go_loopg [18] kj1 (fun kq v18 w' => ∃ (x18_2 : Int), v18 = .int .i64 x18_2 ∧ Aside0 (impl_BagOk.l0 kq l0_1 (l0_1.length : Int) x18_2 a0_0 l0_1 = some r) ∧ Aside0 (kq ≤ kj1) ∧ Aside0 (w'.heap[gb285]? = some (.cells #[.int .i64 a0_0, (.slice A0_1 l0_1.length c0_1)] 26 (0, 0))) ∧ Aside0 (Below w.heap.size w w'))
    case atStart => exact ⟨(0), rs_, H', ⟨Nat.le_refl _⟩, ⟨bkx_ BK285.out⟩, ⟨bb_⟩⟩
    case round =>
     clear H'; (try clear c1); (try clear p2); (try clear c4); (try clear c5); (try clear c8); (try clear hcz6_0 hcz6_1); (try clear hcz7_0 hcz7_1); (try clear hcz9_0 hcz9_1); (try clear hfz6_0 hfz6_1); (try clear hfz7_0 hfz7_1); (try clear hfz9_0 hfz9_1); (try clear p2); obtain ⟨x18_2, rfl, HA, HK2, BK285, HB⟩ := hrel
     cases gk with
     | zero => exact absurd HA.out (by simp [impl_BagOk.l0])
     | succ k2 =>
      have H := HA.out; clear HA; simp only [impl_BagOk.l0] at H
      by_cases c10 : x18_2 < (l0_1.length : Int)
      ·rw [if_pos c10] at H
       have c10b0 := decide_eq_true c10; clear c10
       by_cases c11 : 0 ≤ x18_2
       ·rw [if_pos c11] at H
        have c11b0 := decide_eq_true c11; clear c11
        by_cases c12 : x18_2 < (l0_1.length : Int)
        ·rw [if_pos c12] at H
         have c12b0 := decide_eq_true c12; clear c12; replace H := bsi_ H; obtain ⟨t289, A130, H⟩ := H
         try dsimp only at H
         have A13 := am_ A130; clear A130
         by_cases c14 : t289 = true
         ·subst c14
          rw [if_pos rfl] at H
          by_cases c15 : ((rd_T47 l0_1 x18_2).f1) = 0
          ·rw [if_pos c15] at H
           have c15b0 : (((rd_T47 l0_1 x18_2).f1) == 0) = true := beq_iff_eq.mpr c15; have c15b1 : (((rd_T47 l0_1 x18_2).f1) != 0) = false := bne_eq_false_iff_eq.mpr c15; clear c15; obtain rfl := Option.some.inj H; (have p287 : 0 ≤ (x18_2 : Int) := oa_); (have q287 : x18_2 < (l0_1.length : Int) := oa_); obtain ⟨ad287, A287_0, c287_0, e287, hx287_0, hx287_1, hl287_0, hi287_0⟩ := at_T47 HR0_1.out x18_2 p287 q287; cases e287; replace hx287_0 := hb_ HB hx287_0; replace hx287_1 := hb_ HB hx287_1; have HR287_0 := am_ hi287_0; have HC287_0 := am_ hl287_0; clear hi287_0 hl287_0; replace p287 := eq_true p287; replace q287 := eq_true q287
           try go_wp2_with (first | ((with_reducible refine gate_dst (N := 4) rfl ?_); (try (refine gate_guard (by rfl) ?_; dsimp only)); refine bx_ 4 #[.slice none 0 0, .int .i64 0] 47 ?_; intro gb288 hg w16 hbox hb; have BK288 := am_ (hbox); have GW288 := gw_ hg; have GE288 := gw_ hg; have NB285_288 := nl_ hg BK285; have NB288_285 := ng_ hg BK285; replace BK285 := bkb_ BK285 hb; replace HB := bs_ hb; clear hb hbox hg; have hnb17 := NB288_285.out; have hnc17 := NB285_288.out; obtain ⟨hcz18_0, hcz18_1, hfz18_0, hfz18_1⟩ := b2_ BK288))
           have n0_ : Aside0 (((w16.setCell ⟨gb288, 0, none⟩ (.slice A287_0 ((rd_T47 l0_1 x18_2).f0).length c287_0)).setCell ⟨gb288, 1, none⟩ (.int .i64 ((rd_T47 l0_1 x18_2).f1))).heap[gb285]? = some (.cells #[.int .i64 a0_0, .slice (some ad287) l0_1.length c0_1] 26 (0, 0))) := ⟨(bf2_ NB285_288 (bkx_ BK285.out))⟩; have n1_ : Aside0 (((w16.setCell ⟨gb288, 0, none⟩ (.slice A287_0 ((rd_T47 l0_1 x18_2).f0).length c287_0)).setCell ⟨gb288, 1, none⟩ (.int .i64 ((rd_T47 l0_1 x18_2).f1))).heap[gb288]? = some (.cells #[.slice A287_0 ((rd_T47 l0_1 x18_2).f0).length c287_0, .int .i64 ((rd_T47 l0_1 x18_2).f1)] 47 (0, 0))) := ⟨(bp2_ (bkx_ BK288.out))⟩; have n2_ : Aside0 (Below w.heap.size w ((w16.setCell ⟨gb288, 0, none⟩ (.slice A287_0 ((rd_T47 l0_1 x18_2).f0).length c287_0)).setCell ⟨gb288, 1, none⟩ (.int .i64 ((rd_T47 l0_1 x18_2).f1)))) := ⟨bb_⟩; (try clear BK285); (try clear BK288); (try clear HB); generalize ((w16.setCell ⟨gb288, 0, none⟩ (.slice A287_0 ((rd_T47 l0_1 x18_2).f0).length c287_0)).setCell ⟨gb288, 1, none⟩ (.int .i64 ((rd_T47 l0_1 x18_2).f1))) = w19 at n0_ n1_ n2_ ⊢; have BK285 := n0_; have BK288 := n1_; have HB := n2_; clear n0_ n1_ n2_; replace BK285 := am_ (blk_drew BK285.out); replace BK288 := am_ (blk_drew BK288.out); replace HB := am_ (below_drew1 HB.out); (refine start_ (n := 34) (S := fun w' => w'.cell? ⟨gb288, 0, none⟩ = some (.slice A287_0 ((rd_T47 l0_1 x18_2).f0).length c287_0) ∧ w'.cell? ⟨gb288, 1, none⟩ = some (.int .i64 ((rd_T47 l0_1 x18_2).f1)) ∧ w'.cell? ⟨gb285, 0, none⟩ = some (.int .i64 a0_0) ∧ w'.cell? ⟨gb285, 1, none⟩ = some (.slice (some ad287) l0_1.length c0_1)) (ds := []) (tf 0 34) (by kernel_rfl) rfl rfl ⟨bc_ BK288 0, bc_ BK288 1, bc_ BK285 0, bc_ BK285 1⟩ (fun hHeld => ?_); refine with_tabW impl_BagOk.tab6 impl_BagOk.bits6 (fun HT_ HW_ => ?_)); generalize w19.drew = w20 at BK285 BK288 HB hHeld ⊢; refine pl_ ?_; refine plx_ 2 #[true, false, true, false, false, false, false, false, false, false, false, false, false, false, false, false, false, false, false, false, false, false, false, false, false, false, false, false, false, false, false, false, false, false] ?_; refine tlx_ 1 (tf 3 31) ?_; refine tl_ ?_; refine on1_ (i := 4) (N := some 27) (tf 5 29) (h := fun K hK => ?_); refine gs_ Tryz.func43 #[.slice A287_0 ((rd_T47 l0_1 x18_2).f0).length c287_0, .int .i64 a0_0] ?_; (with_reducible refine (impl_isRow.calls _ _ ((rd_T47 l0_1 x18_2).f0) a0_0 true _ ?side1 ?side2 A13.out).mono ?_); (case side1 => exact ck_ (Kd.C_below HR287_0.out HB.out)); (case side2 => exact HC287_0.out); rintro e w21 ⟨rfl, hb⟩; refine ⟨_, rfl, ?_⟩; replace BK285 := bkb_ BK285 hb; replace BK288 := bkb_ BK288 hb; replace HB := bs_ hb; (try clear hb); refine hK.out _ _ ⟨bc_ BK288 0, bc_ BK288 1, bc_ BK285 0, bc_ BK285 1⟩ (fun hHeld => ?_); clear hK K; refine nm_ ?_; refine plx_ 5 (tf 6 28) ?_
           iterate 2 (refine pl_ ?_)
           refine tl_ ?_
           iterate 3 (refine pl_ ?_)
           iterate 4 (refine pd_ ?_)
           iterate 2 (refine pl_ ?_)
           iterate 15 (refine pd_ ?_)
           refine pl_ ?_; refine done_ (done_of HT_.out (by kernel_rfl)) ?_
           try go_wp2
           go_ret
           exact ⟨er_, bb_⟩
          ·rw [if_neg c15] at H
           have c15b0 : (((rd_T47 l0_1 x18_2).f1) == 0) = false := beq_eq_false_iff_ne.mpr c15; have c15b1 : (((rd_T47 l0_1 x18_2).f1) != 0) = true := bne_iff_ne.mpr c15; replace H := bsi_ H; obtain ⟨t290, A220, H⟩ := H
           try dsimp only at H
           have A22 := am_ A220; clear A220
           by_cases c23 : t290 = true
           ·subst c23
            rw [if_pos rfl] at H
            by_cases c24 : x18_2 > 0
            ·rw [if_pos c24] at H
             have c24b0 := decide_eq_true c24; clear c24; obtain ⟨ji25, hji25⟩ : ∃ j_ : Int, (wrap64 (x18_2 - 1)) = j_ := ⟨_, rfl⟩; (replace H : (if 0 ≤ (ji25) then (if (ji25) < (l0_1.length : Int) then ((impl_CompareRow.f k2 ((rd_T47 l0_1 (ji25)).f0) ((rd_T47 l0_1 x18_2).f0)).bind fun t292 => (if t292 ≥ 0 then (some false) else (impl_BagOk.l0 k2 l0_1 (l0_1.length : Int) (wrap64 (x18_2 + 1)) a0_0 l0_1))) else (none)) else (none)) = some r := by first | (rw [hji25] at H; exact H) | (simp only [hji25] at H ⊢; exact H)); (try rw [hji25] at A13); (try rw [hji25] at A22); have hji25w : (IntKind.i64.wrap (x18_2 - 1)) = ji25 := (i64_w _).trans hji25
             by_cases c26 : 0 ≤ (ji25)
             ·rw [if_pos c26] at H
              have c26b0 := decide_eq_true c26; clear c26
              by_cases c27 : (ji25) < (l0_1.length : Int)
              ·rw [if_pos c27] at H
               have c27b0 := decide_eq_true c27; clear c27; replace H := bsi_ H; obtain ⟨t292, A280, H⟩ := H
               try dsimp only at H
               have A28 := am_ A280; clear A280
               by_cases c29 : t292 ≥ 0
               ·rw [if_pos c29] at H
                have c29b0 := decide_eq_true c29; clear c29; obtain rfl := Option.some.inj H; (have p287 : 0 ≤ (x18_2 : Int) := oa_); (have q287 : x18_2 < (l0_1.length : Int) := oa_); obtain ⟨ad287, A287_0, c287_0, e287, hx287_0, hx287_1, hl287_0, hi287_0⟩ := at_T47 HR0_1.out x18_2 p287 q287; cases e287; replace hx287_0 := hb_ HB hx287_0; replace hx287_1 := hb_ HB hx287_1; have HR287_0 := am_ hi287_0; have HC287_0 := am_ hl287_0; clear hi287_0 hl287_0; replace p287 := eq_true p287; replace q287 := eq_true q287
                try go_wp2_with (first | ((with_reducible refine gate_dst (N := 4) rfl ?_); (try (refine gate_guard (by rfl) ?_; dsimp only)); refine bx_ 4 #[.slice none 0 0, .int .i64 0] 47 ?_; intro gb288 hg w30 hbox hb; have BK288 := am_ (hbox); have GW288 := gw_ hg; have GE288 := gw_ hg; have NB285_288 := nl_ hg BK285; have NB288_285 := ng_ hg BK285; replace BK285 := bkb_ BK285 hb; replace HB := bs_ hb; clear hb hbox hg; have hnb31 := NB288_285.out; have hnc31 := NB285_288.out; obtain ⟨hcz32_0, hcz32_1, hfz32_0, hfz32_1⟩ := b2_ BK288))
                have n0_ : Aside0 (((w30.setCell ⟨gb288, 0, none⟩ (.slice A287_0 ((rd_T47 l0_1 x18_2).f0).length c287_0)).setCell ⟨gb288, 1, none⟩ (.int .i64 ((rd_T47 l0_1 x18_2).f1))).heap[gb285]? = some (.cells #[.int .i64 a0_0, .slice (some ad287) l0_1.length c0_1] 26 (0, 0))) := ⟨(bf2_ NB285_288 (bkx_ BK285.out))⟩; have n1_ : Aside0 (((w30.setCell ⟨gb288, 0, none⟩ (.slice A287_0 ((rd_T47 l0_1 x18_2).f0).length c287_0)).setCell ⟨gb288, 1, none⟩ (.int .i64 ((rd_T47 l0_1 x18_2).f1))).heap[gb288]? = some (.cells #[.slice A287_0 ((rd_T47 l0_1 x18_2).f0).length c287_0, .int .i64 ((rd_T47 l0_1 x18_2).f1)] 47 (0, 0))) := ⟨(bp2_ (bkx_ BK288.out))⟩; have n2_ : Aside0 (Below w.heap.size w ((w30.setCell ⟨gb288, 0, none⟩ (.slice A287_0 ((rd_T47 l0_1 x18_2).f0).length c287_0)).setCell ⟨gb288, 1, none⟩ (.int .i64 ((rd_T47 l0_1 x18_2).f1)))) := ⟨bb_⟩; (try clear BK285); (try clear BK288); (try clear HB); generalize ((w30.setCell ⟨gb288, 0, none⟩ (.slice A287_0 ((rd_T47 l0_1 x18_2).f0).length c287_0)).setCell ⟨gb288, 1, none⟩ (.int .i64 ((rd_T47 l0_1 x18_2).f1))) = w33 at n0_ n1_ n2_ ⊢; have BK285 := n0_; have BK288 := n1_; have HB := n2_; clear n0_ n1_ n2_; replace BK285 := am_ (blk_drew BK285.out); replace BK288 := am_ (blk_drew BK288.out); replace HB := am_ (below_drew1 HB.out); (have p291 : 0 ≤ ((ji25) : Int) := oa_); (have q291 : (ji25) < (l0_1.length : Int) := oa_); obtain ⟨ad291, A291_0, c291_0, e291, hx291_0, hx291_1, hl291_0, hi291_0⟩ := at_T47 HR0_1.out (ji25) p291 q291; have hw291_1 := hx291_1; have hw291_0 := hx291_0; obtain rfl : ad287 = ad291 := (by injection e291); replace hx291_0 := hb_ HB hx291_0; replace hx291_1 := hb_ HB hx291_1; have HR291_0 := am_ hi291_0; have HC291_0 := am_ hl291_0; clear hi291_0 hl291_0; replace p291 := eq_true p291; replace q291 := eq_true q291; (refine start_ (n := 34) (S := fun w' => w'.cell? ⟨gb288, 0, none⟩ = some (.slice A287_0 ((rd_T47 l0_1 x18_2).f0).length c287_0) ∧ w'.cell? ⟨gb288, 1, none⟩ = some (.int .i64 ((rd_T47 l0_1 x18_2).f1)) ∧ w'.cell? ⟨gb285, 0, none⟩ = some (.int .i64 a0_0) ∧ w'.cell? ⟨gb285, 1, none⟩ = some (.slice (some ad287) l0_1.length c0_1) ∧ w'.cell? (ad287.add (((ji25)).toNat * 2)) = some (.slice A291_0 ((rd_T47 l0_1 (ji25)).f0).length c291_0) ∧ w'.cell? ⟨(ad287.add (((ji25)).toNat * 2)).block, (ad287.add (((ji25)).toNat * 2)).off + 1, none⟩ = some (.int .i64 ((rd_T47 l0_1 (ji25)).f1))) (ds := []) (tf 0 34) (by kernel_rfl) rfl rfl ⟨bc_ BK288 0, bc_ BK288 1, bc_ BK285 0, bc_ BK285 1, (hb_ HB hw291_0), (hb_ HB hw291_1)⟩ (fun hHeld => ?_); refine with_tabW impl_BagOk.tab6 impl_BagOk.bits6 (fun HT_ HW_ => ?_)); generalize w33.drew = w34 at BK285 BK288 HB HR291_0 hx291_0 hx291_1 hHeld ⊢; refine pl_ ?_; refine plx_ 2 #[true, false, true, false, false, false, false, false, false, false, false, false, false, false, false, false, false, false, false, false, false, false, false, false, false, false, false, false, false, false, false, false, false, false] ?_; refine tlx_ 1 (tf 3 31) ?_; refine tl_ ?_; refine on1_ (i := 4) (N := some 27) (tf 5 29) (h := fun K hK => ?_); refine gs_ Tryz.func43 #[.slice A287_0 ((rd_T47 l0_1 x18_2).f0).length c287_0, .int .i64 a0_0] ?_; (with_reducible refine (impl_isRow.calls _ _ ((rd_T47 l0_1 x18_2).f0) a0_0 true _ ?side1 ?side2 A13.out).mono ?_); (case side1 => exact ck_ (Kd.C_below HR287_0.out HB.out)); (case side2 => exact HC287_0.out); rintro e w35 ⟨rfl, hb⟩; refine ⟨_, rfl, ?_⟩; replace BK285 := bkb_ BK285 hb; replace BK288 := bkb_ BK288 hb; replace HB := bs_ hb; (try clear hb); refine hK.out _ _ ⟨bc_ BK288 0, bc_ BK288 1, bc_ BK285 0, bc_ BK285 1, (have h_ := hb_ HB hw291_0; h_), (have h_ := hb_ HB hw291_1; h_)⟩ (fun hHeld => ?_); clear hK K; refine nm_ ?_; refine plx_ 5 (tf 6 28) ?_
                iterate 2 (refine pl_ ?_)
                refine tl_ ?_
                iterate 4 (refine pl_ ?_)
                refine tl_ ?_; refine on1_ (i := 14) (N := some 37) (tf 15 19) (h := fun K hK => ?_); refine gs_ Tryz.func42 #[.int .i64 ((rd_T47 l0_1 x18_2).f1), .int .i64 (-1000000000), .int .i64 1000000000] ?_; (with_reducible refine (impl_within.calls ((rd_T47 l0_1 x18_2).f1) (-1000000000) 1000000000 true _ A22.out).mono ?_); rintro e w' ⟨rfl, ⟨nd, rfl⟩⟩; refine ⟨_, rfl, ?_⟩; refine hK.out _ _ ⟨bc_ BK288 0, bc_ BK288 1, bc_ BK285 0, bc_ BK285 1, (have h_ := hb_ HB hw291_0; h_), (have h_ := hb_ HB hw291_1; h_)⟩ (fun hHeld => ?_); clear hK K; refine nm_ ?_; refine plx_ 15 (tf 16 18) ?_
                iterate 6 (refine pl_ ?_)
                refine plx_ 23 #[true, true, true, true, true, true, true, true, true, true, true, true, true, true, true, true, true, true, true, true, true, true, false, true, false, false, false, false, false, false, false, false, false, false] ?_; refine plx_ 24 #[true, true, true, true, true, true, true, true, true, true, true, true, true, true, true, true, true, true, true, true, true, true, false, true, true, false, false, false, false, false, false, false, false, false] ?_; refine plx_ 28 #[true, true, true, true, true, true, true, true, true, true, true, true, true, true, true, true, true, true, true, true, true, true, false, true, true, false, false, false, true, false, false, false, false, false] ?_; refine tlx_ 22 #[true, true, true, true, true, true, true, true, true, true, true, true, true, true, true, true, true, true, true, true, true, true, true, true, true, false, false, false, true, false, false, false, false, false] ?_; refine plx_ 25 #[true, true, true, true, true, true, true, true, true, true, true, true, true, true, true, true, true, true, true, true, true, true, true, true, true, true, false, false, true, false, false, false, false, false] ?_; refine plx_ 26 #[true, true, true, true, true, true, true, true, true, true, true, true, true, true, true, true, true, true, true, true, true, true, true, true, true, true, true, false, true, false, false, false, false, false] ?_; refine tlx_ 27 (tf 29 5) ?_; refine tl_ ?_; refine on1_ (i := 30) (N := some 53) (tf 31 3) (h := fun K hK => ?_); (refine goes_ Tryz.func44 (by kernel_rfl) rfl #[.slice A291_0 ((rd_T47 l0_1 (ji25)).f0).length c291_0, .slice A287_0 ((rd_T47 l0_1 x18_2).f0).length c287_0] (by rfl) rfl rfl (by (try simp only [List.map_toArray, List.map_cons, List.map_nil]); first | done | (simp only [hji25]; rfl) | rfl | (simp only [List.length_drop, List.length_take]; rfl)) ?_); (with_reducible refine (impl_CompareRow.calls k2 _ _ ((rd_T47 l0_1 (ji25)).f0) _ _ ((rd_T47 l0_1 x18_2).f0) t292 _ ?side1 ?side2 ?side3 ?side4 A28.out).mono ?_); (case side1 => exact ck_ (Kd.C_below HR291_0.out bb_)); (case side2 => exact HC291_0.out); (case side3 => exact ck_ (Kd.C_below HR287_0.out bb_)); (case side4 => exact HC287_0.out); rintro e w36 ⟨rfl, hb⟩; refine ⟨_, rfl, ?_⟩; replace BK285 := bkb_ BK285 hb; replace BK288 := bkb_ BK288 hb; replace HB := bs_ hb; (try clear hb); refine hK.out _ _ ⟨bc_ BK288 0, bc_ BK288 1, bc_ BK285 0, bc_ BK285 1, (have h_ := hb_ HB hw291_0; h_), (have h_ := hb_ HB hw291_1; h_)⟩ (fun hHeld => ?_); clear hK K; refine nm_ ?_; refine plx_ 31 (tf 32 2) ?_
                iterate 2 (refine pl_ ?_)
                refine done_ (done_of HT_.out (by kernel_rfl)) ?_
                try go_wp2
                go_ret
                (exact ⟨by first | rfl | (simp [errW_none, errW_some] <;> rfl) | (simp only [← hji25]; first | rfl | (simp [errW_none, errW_some] <;> rfl)) | (simp [*, errW_none, errW_some] <;> rfl), by repeat (first | (with_reducible first | exact HB.out | apply below_alloc | apply pw_below_drewN | apply below_drew1 | refine below_set ?_ GE285.out | refine below_set ?_ GE288.out) | exact HB.out)⟩)
               ·rw [if_neg c29] at H
                have c29b0 := decide_eq_false c29; clear c29; have H' := am_ H; clear H; (have p287 : 0 ≤ (x18_2 : Int) := oa_); (have q287 : x18_2 < (l0_1.length : Int) := oa_); obtain ⟨ad287, A287_0, c287_0, e287, hx287_0, hx287_1, hl287_0, hi287_0⟩ := at_T47 HR0_1.out x18_2 p287 q287; cases e287; replace hx287_0 := hb_ HB hx287_0; replace hx287_1 := hb_ HB hx287_1; have HR287_0 := am_ hi287_0; have HC287_0 := am_ hl287_0; clear hi287_0 hl287_0; replace p287 := eq_true p287; replace q287 := eq_true q287
                try go_wp2_with (first | ((with_reducible refine gate_dst (N := 4) rfl ?_); (try (refine gate_guard (by rfl) ?_; dsimp only)); refine bx_ 4 #[.slice none 0 0, .int .i64 0] 47 ?_; intro gb288 hg w37 hbox hb; have BK288 := am_ (hbox); have GW288 := gw_ hg; have GE288 := gw_ hg; have NB285_288 := nl_ hg BK285; have NB288_285 := ng_ hg BK285; replace BK285 := bkb_ BK285 hb; replace HB := bs_ hb; clear hb hbox hg; have hnb38 := NB288_285.out; have hnc38 := NB285_288.out; obtain ⟨hcz39_0, hcz39_1, hfz39_0, hfz39_1⟩ := b2_ BK288))
                have n0_ : Aside0 (((w37.setCell ⟨gb288, 0, none⟩ (.slice A287_0 ((rd_T47 l0_1 x18_2).f0).length c287_0)).setCell ⟨gb288, 1, none⟩ (.int .i64 ((rd_T47 l0_1 x18_2).f1))).heap[gb285]? = some (.cells #[.int .i64 a0_0, .slice (some ad287) l0_1.length c0_1] 26 (0, 0))) := ⟨(bf2_ NB285_288 (bkx_ BK285.out))⟩; have n1_ : Aside0 (((w37.setCell ⟨gb288, 0, none⟩ (.slice A287_0 ((rd_T47 l0_1 x18_2).f0).length c287_0)).setCell ⟨gb288, 1, none⟩ (.int .i64 ((rd_T47 l0_1 x18_2).f1))).heap[gb288]? = some (.cells #[.slice A287_0 ((rd_T47 l0_1 x18_2).f0).length c287_0, .int .i64 ((rd_T47 l0_1 x18_2).f1)] 47 (0, 0))) := ⟨(bp2_ (bkx_ BK288.out))⟩; have n2_ : Aside0 (Below w.heap.size w ((w37.setCell ⟨gb288, 0, none⟩ (.slice A287_0 ((rd_T47 l0_1 x18_2).f0).length c287_0)).setCell ⟨gb288, 1, none⟩ (.int .i64 ((rd_T47 l0_1 x18_2).f1)))) := ⟨bb_⟩; (try clear BK285); (try clear BK288); (try clear HB); generalize ((w37.setCell ⟨gb288, 0, none⟩ (.slice A287_0 ((rd_T47 l0_1 x18_2).f0).length c287_0)).setCell ⟨gb288, 1, none⟩ (.int .i64 ((rd_T47 l0_1 x18_2).f1))) = w40 at n0_ n1_ n2_ ⊢; have BK285 := n0_; have BK288 := n1_; have HB := n2_; clear n0_ n1_ n2_; replace BK285 := am_ (blk_drew BK285.out); replace BK288 := am_ (blk_drew BK288.out); replace HB := am_ (below_drew1 HB.out); (have p291 : 0 ≤ ((ji25) : Int) := oa_); (have q291 : (ji25) < (l0_1.length : Int) := oa_); obtain ⟨ad291, A291_0, c291_0, e291, hx291_0, hx291_1, hl291_0, hi291_0⟩ := at_T47 HR0_1.out (ji25) p291 q291; have hw291_1 := hx291_1; have hw291_0 := hx291_0; obtain rfl : ad287 = ad291 := (by injection e291); replace hx291_0 := hb_ HB hx291_0; replace hx291_1 := hb_ HB hx291_1; have HR291_0 := am_ hi291_0; have HC291_0 := am_ hl291_0; clear hi291_0 hl291_0; replace p291 := eq_true p291; replace q291 := eq_true q291; (refine start_ (n := 34) (S := fun w' => w'.cell? ⟨gb288, 0, none⟩ = some (.slice A287_0 ((rd_T47 l0_1 x18_2).f0).length c287_0) ∧ w'.cell? ⟨gb288, 1, none⟩ = some (.int .i64 ((rd_T47 l0_1 x18_2).f1)) ∧ w'.cell? ⟨gb285, 0, none⟩ = some (.int .i64 a0_0) ∧ w'.cell? ⟨gb285, 1, none⟩ = some (.slice (some ad287) l0_1.length c0_1) ∧ w'.cell? (ad287.add (((ji25)).toNat * 2)) = some (.slice A291_0 ((rd_T47 l0_1 (ji25)).f0).length c291_0) ∧ w'.cell? ⟨(ad287.add (((ji25)).toNat * 2)).block, (ad287.add (((ji25)).toNat * 2)).off + 1, none⟩ = some (.int .i64 ((rd_T47 l0_1 (ji25)).f1))) (ds := []) (tf 0 34) (by kernel_rfl) rfl rfl ⟨bc_ BK288 0, bc_ BK288 1, bc_ BK285 0, bc_ BK285 1, (hb_ HB hw291_0), (hb_ HB hw291_1)⟩ (fun hHeld => ?_); refine with_tabW impl_BagOk.tab6 impl_BagOk.bits6 (fun HT_ HW_ => ?_)); generalize w40.drew = w41 at BK285 BK288 HB HR291_0 hx291_0 hx291_1 hHeld ⊢; refine pl_ ?_; refine plx_ 2 #[true, false, true, false, false, false, false, false, false, false, false, false, false, false, false, false, false, false, false, false, false, false, false, false, false, false, false, false, false, false, false, false, false, false] ?_; refine tlx_ 1 (tf 3 31) ?_; refine tl_ ?_; refine on1_ (i := 4) (N := some 27) (tf 5 29) (h := fun K hK => ?_); refine gs_ Tryz.func43 #[.slice A287_0 ((rd_T47 l0_1 x18_2).f0).length c287_0, .int .i64 a0_0] ?_; (with_reducible refine (impl_isRow.calls _ _ ((rd_T47 l0_1 x18_2).f0) a0_0 true _ ?side1 ?side2 A13.out).mono ?_); (case side1 => exact ck_ (Kd.C_below HR287_0.out HB.out)); (case side2 => exact HC287_0.out); rintro e w42 ⟨rfl, hb⟩; refine ⟨_, rfl, ?_⟩; replace BK285 := bkb_ BK285 hb; replace BK288 := bkb_ BK288 hb; replace HB := bs_ hb; (try clear hb); refine hK.out _ _ ⟨bc_ BK288 0, bc_ BK288 1, bc_ BK285 0, bc_ BK285 1, (have h_ := hb_ HB hw291_0; h_), (have h_ := hb_ HB hw291_1; h_)⟩ (fun hHeld => ?_); clear hK K; refine nm_ ?_; refine plx_ 5 (tf 6 28) ?_
                iterate 2 (refine pl_ ?_)
                refine tl_ ?_
                iterate 4 (refine pl_ ?_)
                refine tl_ ?_; refine on1_ (i := 14) (N := some 37) (tf 15 19) (h := fun K hK => ?_); refine gs_ Tryz.func42 #[.int .i64 ((rd_T47 l0_1 x18_2).f1), .int .i64 (-1000000000), .int .i64 1000000000] ?_; (with_reducible refine (impl_within.calls ((rd_T47 l0_1 x18_2).f1) (-1000000000) 1000000000 true _ A22.out).mono ?_); rintro e w' ⟨rfl, ⟨nd, rfl⟩⟩; refine ⟨_, rfl, ?_⟩; refine hK.out _ _ ⟨bc_ BK288 0, bc_ BK288 1, bc_ BK285 0, bc_ BK285 1, (have h_ := hb_ HB hw291_0; h_), (have h_ := hb_ HB hw291_1; h_)⟩ (fun hHeld => ?_); clear hK K; refine nm_ ?_; refine plx_ 15 (tf 16 18) ?_
                iterate 6 (refine pl_ ?_)
                refine plx_ 23 #[true, true, true, true, true, true, true, true, true, true, true, true, true, true, true, true, true, true, true, true, true, true, false, true, false, false, false, false, false, false, false, false, false, false] ?_; refine plx_ 24 #[true, true, true, true, true, true, true, true, true, true, true, true, true, true, true, true, true, true, true, true, true, true, false, true, true, false, false, false, false, false, false, false, false, false] ?_; refine plx_ 28 #[true, true, true, true, true, true, true, true, true, true, true, true, true, true, true, true, true, true, true, true, true, true, false, true, true, false, false, false, true, false, false, false, false, false] ?_; refine tlx_ 22 #[true, true, true, true, true, true, true, true, true, true, true, true, true, true, true, true, true, true, true, true, true, true, true, true, true, false, false, false, true, false, false, false, false, false] ?_; refine plx_ 25 #[true, true, true, true, true, true, true, true, true, true, true, true, true, true, true, true, true, true, true, true, true, true, true, true, true, true, false, false, true, false, false, false, false, false] ?_; refine plx_ 26 #[true, true, true, true, true, true, true, true, true, true, true, true, true, true, true, true, true, true, true, true, true, true, true, true, true, true, true, false, true, false, false, false, false, false] ?_; refine tlx_ 27 (tf 29 5) ?_; refine tl_ ?_; refine on1_ (i := 30) (N := some 53) (tf 31 3) (h := fun K hK => ?_); (refine goes_ Tryz.func44 (by kernel_rfl) rfl #[.slice A291_0 ((rd_T47 l0_1 (ji25)).f0).length c291_0, .slice A287_0 ((rd_T47 l0_1 x18_2).f0).length c287_0] (by rfl) rfl rfl (by (try simp only [List.map_toArray, List.map_cons, List.map_nil]); first | done | (simp only [hji25]; rfl) | rfl | (simp only [List.length_drop, List.length_take]; rfl)) ?_); (with_reducible refine (impl_CompareRow.calls k2 _ _ ((rd_T47 l0_1 (ji25)).f0) _ _ ((rd_T47 l0_1 x18_2).f0) t292 _ ?side1 ?side2 ?side3 ?side4 A28.out).mono ?_); (case side1 => exact ck_ (Kd.C_below HR291_0.out bb_)); (case side2 => exact HC291_0.out); (case side3 => exact ck_ (Kd.C_below HR287_0.out bb_)); (case side4 => exact HC287_0.out); rintro e w43 ⟨rfl, hb⟩; refine ⟨_, rfl, ?_⟩; replace BK285 := bkb_ BK285 hb; replace BK288 := bkb_ BK288 hb; replace HB := bs_ hb; (try clear hb); refine hK.out _ _ ⟨bc_ BK288 0, bc_ BK288 1, bc_ BK285 0, bc_ BK285 1, (have h_ := hb_ HB hw291_0; h_), (have h_ := hb_ HB hw291_1; h_)⟩ (fun hHeld => ?_); clear hK K; refine nm_ ?_; refine plx_ 31 (tf 32 2) ?_
                iterate 2 (refine pl_ ?_)
                refine done_ (done_of HT_.out (by kernel_rfl)) ?_
                try go_wp2
                go_roundg k2
                case measure => have := HJ1.out; have := HK2.out; omega
                case rel => exact ⟨(wrap64 (x18_2 + 1)), rs_, H', ⟨by have := HJ1.out; have := HK2.out; omega⟩, ⟨bkx_ BK285.out⟩, ⟨bb_⟩⟩
              ·rw [if_neg c27] at H
               exact nn_ H
             ·rw [if_neg c26] at H
              exact nn_ H
            ·rw [if_neg c24] at H
             have c24b0 := decide_eq_false c24; clear c24; have H' := am_ H; clear H; (have p287 : 0 ≤ (x18_2 : Int) := oa_); (have q287 : x18_2 < (l0_1.length : Int) := oa_); obtain ⟨ad287, A287_0, c287_0, e287, hx287_0, hx287_1, hl287_0, hi287_0⟩ := at_T47 HR0_1.out x18_2 p287 q287; cases e287; replace hx287_0 := hb_ HB hx287_0; replace hx287_1 := hb_ HB hx287_1; have HR287_0 := am_ hi287_0; have HC287_0 := am_ hl287_0; clear hi287_0 hl287_0; replace p287 := eq_true p287; replace q287 := eq_true q287
             try go_wp2_with (first | ((with_reducible refine gate_dst (N := 4) rfl ?_); (try (refine gate_guard (by rfl) ?_; dsimp only)); refine bx_ 4 #[.slice none 0 0, .int .i64 0] 47 ?_; intro gb288 hg w44 hbox hb; have BK288 := am_ (hbox); have GW288 := gw_ hg; have GE288 := gw_ hg; have NB285_288 := nl_ hg BK285; have NB288_285 := ng_ hg BK285; replace BK285 := bkb_ BK285 hb; replace HB := bs_ hb; clear hb hbox hg; have hnb45 := NB288_285.out; have hnc45 := NB285_288.out; obtain ⟨hcz46_0, hcz46_1, hfz46_0, hfz46_1⟩ := b2_ BK288))
             have n0_ : Aside0 (((w44.setCell ⟨gb288, 0, none⟩ (.slice A287_0 ((rd_T47 l0_1 x18_2).f0).length c287_0)).setCell ⟨gb288, 1, none⟩ (.int .i64 ((rd_T47 l0_1 x18_2).f1))).heap[gb285]? = some (.cells #[.int .i64 a0_0, .slice (some ad287) l0_1.length c0_1] 26 (0, 0))) := ⟨(bf2_ NB285_288 (bkx_ BK285.out))⟩; have n1_ : Aside0 (((w44.setCell ⟨gb288, 0, none⟩ (.slice A287_0 ((rd_T47 l0_1 x18_2).f0).length c287_0)).setCell ⟨gb288, 1, none⟩ (.int .i64 ((rd_T47 l0_1 x18_2).f1))).heap[gb288]? = some (.cells #[.slice A287_0 ((rd_T47 l0_1 x18_2).f0).length c287_0, .int .i64 ((rd_T47 l0_1 x18_2).f1)] 47 (0, 0))) := ⟨(bp2_ (bkx_ BK288.out))⟩; have n2_ : Aside0 (Below w.heap.size w ((w44.setCell ⟨gb288, 0, none⟩ (.slice A287_0 ((rd_T47 l0_1 x18_2).f0).length c287_0)).setCell ⟨gb288, 1, none⟩ (.int .i64 ((rd_T47 l0_1 x18_2).f1)))) := ⟨bb_⟩; (try clear BK285); (try clear BK288); (try clear HB); generalize ((w44.setCell ⟨gb288, 0, none⟩ (.slice A287_0 ((rd_T47 l0_1 x18_2).f0).length c287_0)).setCell ⟨gb288, 1, none⟩ (.int .i64 ((rd_T47 l0_1 x18_2).f1))) = w47 at n0_ n1_ n2_ ⊢; have BK285 := n0_; have BK288 := n1_; have HB := n2_; clear n0_ n1_ n2_; replace BK285 := am_ (blk_drew BK285.out); replace BK288 := am_ (blk_drew BK288.out); replace HB := am_ (below_drew1 HB.out); (refine start_ (n := 34) (S := fun w' => w'.cell? ⟨gb288, 0, none⟩ = some (.slice A287_0 ((rd_T47 l0_1 x18_2).f0).length c287_0) ∧ w'.cell? ⟨gb288, 1, none⟩ = some (.int .i64 ((rd_T47 l0_1 x18_2).f1)) ∧ w'.cell? ⟨gb285, 0, none⟩ = some (.int .i64 a0_0) ∧ w'.cell? ⟨gb285, 1, none⟩ = some (.slice (some ad287) l0_1.length c0_1)) (ds := []) (tf 0 34) (by kernel_rfl) rfl rfl ⟨bc_ BK288 0, bc_ BK288 1, bc_ BK285 0, bc_ BK285 1⟩ (fun hHeld => ?_); refine with_tabW impl_BagOk.tab6 impl_BagOk.bits6 (fun HT_ HW_ => ?_)); generalize w47.drew = w48 at BK285 BK288 HB hHeld ⊢; refine pl_ ?_; refine plx_ 2 #[true, false, true, false, false, false, false, false, false, false, false, false, false, false, false, false, false, false, false, false, false, false, false, false, false, false, false, false, false, false, false, false, false, false] ?_; refine tlx_ 1 (tf 3 31) ?_; refine tl_ ?_; refine on1_ (i := 4) (N := some 27) (tf 5 29) (h := fun K hK => ?_); refine gs_ Tryz.func43 #[.slice A287_0 ((rd_T47 l0_1 x18_2).f0).length c287_0, .int .i64 a0_0] ?_; (with_reducible refine (impl_isRow.calls _ _ ((rd_T47 l0_1 x18_2).f0) a0_0 true _ ?side1 ?side2 A13.out).mono ?_); (case side1 => exact ck_ (Kd.C_below HR287_0.out HB.out)); (case side2 => exact HC287_0.out); rintro e w49 ⟨rfl, hb⟩; refine ⟨_, rfl, ?_⟩; replace BK285 := bkb_ BK285 hb; replace BK288 := bkb_ BK288 hb; replace HB := bs_ hb; (try clear hb); refine hK.out _ _ ⟨bc_ BK288 0, bc_ BK288 1, bc_ BK285 0, bc_ BK285 1⟩ (fun hHeld => ?_); clear hK K; refine nm_ ?_; refine plx_ 5 (tf 6 28) ?_
             iterate 2 (refine pl_ ?_)
             refine tl_ ?_
             iterate 4 (refine pl_ ?_)
             refine tl_ ?_; refine on1_ (i := 14) (N := some 37) (tf 15 19) (h := fun K hK => ?_); refine gs_ Tryz.func42 #[.int .i64 ((rd_T47 l0_1 x18_2).f1), .int .i64 (-1000000000), .int .i64 1000000000] ?_; (with_reducible refine (impl_within.calls ((rd_T47 l0_1 x18_2).f1) (-1000000000) 1000000000 true _ A22.out).mono ?_); rintro e w' ⟨rfl, ⟨nd, rfl⟩⟩; refine ⟨_, rfl, ?_⟩; refine hK.out _ _ ⟨bc_ BK288 0, bc_ BK288 1, bc_ BK285 0, bc_ BK285 1⟩ (fun hHeld => ?_); clear hK K; refine nm_ ?_; refine plx_ 15 (tf 16 18) ?_
             iterate 5 (refine pl_ ?_)
             iterate 11 (refine pd_ ?_)
             iterate 2 (refine pl_ ?_)
             refine done_ (done_of HT_.out (by kernel_rfl)) ?_
             try go_wp2
             go_roundg k2
             case measure => have := HJ1.out; have := HK2.out; omega
             case rel => exact ⟨(wrap64 (x18_2 + 1)), rs_, H', ⟨by have := HJ1.out; have := HK2.out; omega⟩, ⟨bkx_ BK285.out⟩, ⟨bb_⟩⟩
           ·replace c23 := Bool.eq_false_iff.mpr c23
            subst c23; (rw [if_neg (show ¬ (false = true) by decide)] at H); obtain rfl := Option.some.inj H; (have p287 : 0 ≤ (x18_2 : Int) := oa_); (have q287 : x18_2 < (l0_1.length : Int) := oa_); obtain ⟨ad287, A287_0, c287_0, e287, hx287_0, hx287_1, hl287_0, hi287_0⟩ := at_T47 HR0_1.out x18_2 p287 q287; cases e287; replace hx287_0 := hb_ HB hx287_0; replace hx287_1 := hb_ HB hx287_1; have HR287_0 := am_ hi287_0; have HC287_0 := am_ hl287_0; clear hi287_0 hl287_0; replace p287 := eq_true p287; replace q287 := eq_true q287
            try go_wp2_with (first | ((with_reducible refine gate_dst (N := 4) rfl ?_); (try (refine gate_guard (by rfl) ?_; dsimp only)); refine bx_ 4 #[.slice none 0 0, .int .i64 0] 47 ?_; intro gb288 hg w50 hbox hb; have BK288 := am_ (hbox); have GW288 := gw_ hg; have GE288 := gw_ hg; have NB285_288 := nl_ hg BK285; have NB288_285 := ng_ hg BK285; replace BK285 := bkb_ BK285 hb; replace HB := bs_ hb; clear hb hbox hg; have hnb51 := NB288_285.out; have hnc51 := NB285_288.out; obtain ⟨hcz52_0, hcz52_1, hfz52_0, hfz52_1⟩ := b2_ BK288))
            have n0_ : Aside0 (((w50.setCell ⟨gb288, 0, none⟩ (.slice A287_0 ((rd_T47 l0_1 x18_2).f0).length c287_0)).setCell ⟨gb288, 1, none⟩ (.int .i64 ((rd_T47 l0_1 x18_2).f1))).heap[gb285]? = some (.cells #[.int .i64 a0_0, .slice (some ad287) l0_1.length c0_1] 26 (0, 0))) := ⟨(bf2_ NB285_288 (bkx_ BK285.out))⟩; have n1_ : Aside0 (((w50.setCell ⟨gb288, 0, none⟩ (.slice A287_0 ((rd_T47 l0_1 x18_2).f0).length c287_0)).setCell ⟨gb288, 1, none⟩ (.int .i64 ((rd_T47 l0_1 x18_2).f1))).heap[gb288]? = some (.cells #[.slice A287_0 ((rd_T47 l0_1 x18_2).f0).length c287_0, .int .i64 ((rd_T47 l0_1 x18_2).f1)] 47 (0, 0))) := ⟨(bp2_ (bkx_ BK288.out))⟩; have n2_ : Aside0 (Below w.heap.size w ((w50.setCell ⟨gb288, 0, none⟩ (.slice A287_0 ((rd_T47 l0_1 x18_2).f0).length c287_0)).setCell ⟨gb288, 1, none⟩ (.int .i64 ((rd_T47 l0_1 x18_2).f1)))) := ⟨bb_⟩; (try clear BK285); (try clear BK288); (try clear HB); generalize ((w50.setCell ⟨gb288, 0, none⟩ (.slice A287_0 ((rd_T47 l0_1 x18_2).f0).length c287_0)).setCell ⟨gb288, 1, none⟩ (.int .i64 ((rd_T47 l0_1 x18_2).f1))) = w53 at n0_ n1_ n2_ ⊢; have BK285 := n0_; have BK288 := n1_; have HB := n2_; clear n0_ n1_ n2_; replace BK285 := am_ (blk_drew BK285.out); replace BK288 := am_ (blk_drew BK288.out); replace HB := am_ (below_drew1 HB.out); (refine start_ (n := 34) (S := fun w' => w'.cell? ⟨gb288, 0, none⟩ = some (.slice A287_0 ((rd_T47 l0_1 x18_2).f0).length c287_0) ∧ w'.cell? ⟨gb288, 1, none⟩ = some (.int .i64 ((rd_T47 l0_1 x18_2).f1)) ∧ w'.cell? ⟨gb285, 0, none⟩ = some (.int .i64 a0_0) ∧ w'.cell? ⟨gb285, 1, none⟩ = some (.slice (some ad287) l0_1.length c0_1)) (ds := []) (tf 0 34) (by kernel_rfl) rfl rfl ⟨bc_ BK288 0, bc_ BK288 1, bc_ BK285 0, bc_ BK285 1⟩ (fun hHeld => ?_); refine with_tabW impl_BagOk.tab6 impl_BagOk.bits6 (fun HT_ HW_ => ?_)); generalize w53.drew = w54 at BK285 BK288 HB hHeld ⊢; refine pl_ ?_; refine plx_ 2 #[true, false, true, false, false, false, false, false, false, false, false, false, false, false, false, false, false, false, false, false, false, false, false, false, false, false, false, false, false, false, false, false, false, false] ?_; refine tlx_ 1 (tf 3 31) ?_; refine tl_ ?_; refine on1_ (i := 4) (N := some 27) (tf 5 29) (h := fun K hK => ?_); refine gs_ Tryz.func43 #[.slice A287_0 ((rd_T47 l0_1 x18_2).f0).length c287_0, .int .i64 a0_0] ?_; (with_reducible refine (impl_isRow.calls _ _ ((rd_T47 l0_1 x18_2).f0) a0_0 true _ ?side1 ?side2 A13.out).mono ?_); (case side1 => exact ck_ (Kd.C_below HR287_0.out HB.out)); (case side2 => exact HC287_0.out); rintro e w55 ⟨rfl, hb⟩; refine ⟨_, rfl, ?_⟩; replace BK285 := bkb_ BK285 hb; replace BK288 := bkb_ BK288 hb; replace HB := bs_ hb; (try clear hb); refine hK.out _ _ ⟨bc_ BK288 0, bc_ BK288 1, bc_ BK285 0, bc_ BK285 1⟩ (fun hHeld => ?_); clear hK K; refine nm_ ?_; refine plx_ 5 (tf 6 28) ?_
            iterate 2 (refine pl_ ?_)
            refine tl_ ?_
            iterate 4 (refine pl_ ?_)
            refine tl_ ?_; refine on1_ (i := 14) (N := some 37) (tf 15 19) (h := fun K hK => ?_); refine gs_ Tryz.func42 #[.int .i64 ((rd_T47 l0_1 x18_2).f1), .int .i64 (-1000000000), .int .i64 1000000000] ?_; (with_reducible refine (impl_within.calls ((rd_T47 l0_1 x18_2).f1) (-1000000000) 1000000000 false _ A22.out).mono ?_); rintro e w' ⟨rfl, ⟨nd, rfl⟩⟩; refine ⟨_, rfl, ?_⟩; refine hK.out _ _ ⟨bc_ BK288 0, bc_ BK288 1, bc_ BK285 0, bc_ BK285 1⟩ (fun hHeld => ?_); clear hK K; refine nm_ ?_; refine plx_ 15 (tf 16 18) ?_
            iterate 2 (refine pl_ ?_)
            iterate 15 (refine pd_ ?_)
            refine pl_ ?_; refine done_ (done_of HT_.out (by kernel_rfl)) ?_
            try go_wp2
            go_ret
            exact ⟨er_, bb_⟩
         ·replace c14 := Bool.eq_false_iff.mpr c14
          subst c14; (rw [if_neg (show ¬ (false = true) by decide)] at H); obtain rfl := Option.some.inj H; (have p287 : 0 ≤ (x18_2 : Int) := oa_); (have q287 : x18_2 < (l0_1.length : Int) := oa_); obtain ⟨ad287, A287_0, c287_0, e287, hx287_0, hx287_1, hl287_0, hi287_0⟩ := at_T47 HR0_1.out x18_2 p287 q287; cases e287; replace hx287_0 := hb_ HB hx287_0; replace hx287_1 := hb_ HB hx287_1; have HR287_0 := am_ hi287_0; have HC287_0 := am_ hl287_0; clear hi287_0 hl287_0; replace p287 := eq_true p287; replace q287 := eq_true q287
          try go_wp2_with (first | ((with_reducible refine gate_dst (N := 4) rfl ?_); (try (refine gate_guard (by rfl) ?_; dsimp only)); refine bx_ 4 #[.slice none 0 0, .int .i64 0] 47 ?_; intro gb288 hg w56 hbox hb; have BK288 := am_ (hbox); have GW288 := gw_ hg; have GE288 := gw_ hg; have NB285_288 := nl_ hg BK285; have NB288_285 := ng_ hg BK285; replace BK285 := bkb_ BK285 hb; replace HB := bs_ hb; clear hb hbox hg; have hnb57 := NB288_285.out; have hnc57 := NB285_288.out; obtain ⟨hcz58_0, hcz58_1, hfz58_0, hfz58_1⟩ := b2_ BK288))
          have n0_ : Aside0 (((w56.setCell ⟨gb288, 0, none⟩ (.slice A287_0 ((rd_T47 l0_1 x18_2).f0).length c287_0)).setCell ⟨gb288, 1, none⟩ (.int .i64 ((rd_T47 l0_1 x18_2).f1))).heap[gb285]? = some (.cells #[.int .i64 a0_0, .slice (some ad287) l0_1.length c0_1] 26 (0, 0))) := ⟨(bf2_ NB285_288 (bkx_ BK285.out))⟩; have n1_ : Aside0 (((w56.setCell ⟨gb288, 0, none⟩ (.slice A287_0 ((rd_T47 l0_1 x18_2).f0).length c287_0)).setCell ⟨gb288, 1, none⟩ (.int .i64 ((rd_T47 l0_1 x18_2).f1))).heap[gb288]? = some (.cells #[.slice A287_0 ((rd_T47 l0_1 x18_2).f0).length c287_0, .int .i64 ((rd_T47 l0_1 x18_2).f1)] 47 (0, 0))) := ⟨(bp2_ (bkx_ BK288.out))⟩; have n2_ : Aside0 (Below w.heap.size w ((w56.setCell ⟨gb288, 0, none⟩ (.slice A287_0 ((rd_T47 l0_1 x18_2).f0).length c287_0)).setCell ⟨gb288, 1, none⟩ (.int .i64 ((rd_T47 l0_1 x18_2).f1)))) := ⟨bb_⟩; (try clear BK285); (try clear BK288); (try clear HB); generalize ((w56.setCell ⟨gb288, 0, none⟩ (.slice A287_0 ((rd_T47 l0_1 x18_2).f0).length c287_0)).setCell ⟨gb288, 1, none⟩ (.int .i64 ((rd_T47 l0_1 x18_2).f1))) = w59 at n0_ n1_ n2_ ⊢; have BK285 := n0_; have BK288 := n1_; have HB := n2_; clear n0_ n1_ n2_; replace BK285 := am_ (blk_drew BK285.out); replace BK288 := am_ (blk_drew BK288.out); replace HB := am_ (below_drew1 HB.out); (refine start_ (n := 34) (S := fun w' => w'.cell? ⟨gb288, 0, none⟩ = some (.slice A287_0 ((rd_T47 l0_1 x18_2).f0).length c287_0) ∧ w'.cell? ⟨gb288, 1, none⟩ = some (.int .i64 ((rd_T47 l0_1 x18_2).f1)) ∧ w'.cell? ⟨gb285, 0, none⟩ = some (.int .i64 a0_0) ∧ w'.cell? ⟨gb285, 1, none⟩ = some (.slice (some ad287) l0_1.length c0_1)) (ds := []) (tf 0 34) (by kernel_rfl) rfl rfl ⟨bc_ BK288 0, bc_ BK288 1, bc_ BK285 0, bc_ BK285 1⟩ (fun hHeld => ?_); refine with_tabW impl_BagOk.tab6 impl_BagOk.bits6 (fun HT_ HW_ => ?_)); generalize w59.drew = w60 at BK285 BK288 HB hHeld ⊢; refine pl_ ?_; refine plx_ 2 #[true, false, true, false, false, false, false, false, false, false, false, false, false, false, false, false, false, false, false, false, false, false, false, false, false, false, false, false, false, false, false, false, false, false] ?_; refine tlx_ 1 (tf 3 31) ?_; refine tl_ ?_; refine on1_ (i := 4) (N := some 27) (tf 5 29) (h := fun K hK => ?_); refine gs_ Tryz.func43 #[.slice A287_0 ((rd_T47 l0_1 x18_2).f0).length c287_0, .int .i64 a0_0] ?_; (with_reducible refine (impl_isRow.calls _ _ ((rd_T47 l0_1 x18_2).f0) a0_0 false _ ?side1 ?side2 A13.out).mono ?_); (case side1 => exact ck_ (Kd.C_below HR287_0.out HB.out)); (case side2 => exact HC287_0.out); rintro e w61 ⟨rfl, hb⟩; refine ⟨_, rfl, ?_⟩; replace BK285 := bkb_ BK285 hb; replace BK288 := bkb_ BK288 hb; replace HB := bs_ hb; (try clear hb); refine hK.out _ _ ⟨bc_ BK288 0, bc_ BK288 1, bc_ BK285 0, bc_ BK285 1⟩ (fun hHeld => ?_); clear hK K; refine nm_ ?_; refine plx_ 5 (tf 6 28) ?_; refine pl_ ?_
          iterate 3 (refine pd_ ?_)
          iterate 2 (refine pl_ ?_)
          iterate 4 (refine pd_ ?_)
          iterate 2 (refine pl_ ?_)
          iterate 15 (refine pd_ ?_)
          refine pl_ ?_; refine done_ (done_of HT_.out (by kernel_rfl)) ?_
          try go_wp2
          go_ret
          exact ⟨er_, bb_⟩
        ·rw [if_neg c12] at H
         exact nn_ H
       ·rw [if_neg c11] at H
        exact nn_ H
      ·rw [if_neg c10] at H
       have c10b0 := decide_eq_false c10; clear c10; obtain rfl := Option.some.inj H
       go_wp2
       go_ret
       exact ⟨er_, bb_⟩
-- NOT PRINTED: function 63 (abi_NoEscape)

-- NOT PRINTED: function 45 (strings_Builder_copyCheck)

-- NOT PRINTED: function 18 (strings_Builder_WriteString)

/-! ### impl_big: function 19 -/
def impl_big.l0 : Nat → Int → Int → List Int → Int → Int → Option (ByteArray)
 | 0, _, _, _, _, _ => none
 | k + 1, x0, x1, x5, x10, x11 => if x11 < x10 then (if 0 ≤ (wrap64 (8 * x11)) then (if 0 ≤ (wrap64 ((wrap64 (x1 - 1)) - x11)) then (if (wrap64 ((wrap64 (x1 - 1)) - x11)) < (x5.length : Int) then (impl_big.l0 k x0 x1 (x5.set ((wrap64 ((wrap64 (x1 - 1)) - x11)) : Int).toNat ((shr .i64 x0 (wrap64 (8 * x11))) % 256)) x10 (wrap64 (x11 + 1))) else (none)) else (none)) else (none)) else (some (strOfNums x5))
def impl_big.f (k : Nat) (a0 : Int) (a1 : Int) : Option (ByteArray) := if 0 ≤ a1 then (if (a1 : Int).toNat ≤ 281474976710656 then ((some (List.replicate (a1 : Int).toNat 0 : List Int)).bind fun y293 => (impl_big.l0 k a0 a1 y293 (y293.length : Int) 0)) else (none)) else (none)
set_option maxHeartbeats 8000000 in
set_option maxRecDepth 100000 in
theorem impl_big.calls (k : Nat) (a0 : Int) (a1 : Int) (r : ByteArray) (w : World) (h : impl_big.f k a0 a1 = some r) :
  Calls Tryz.prog 19 #[.int .i64 a0, .int .i64 a1] w fun e w' => e = .returned (.string r) ∧ Below w.heap.size w w' := by
 have HB := am_ (Below.refl w.heap.size w)
 have H : (if 0 ≤ a1 then (if (a1 : Int).toNat ≤ 281474976710656 then ((some (List.replicate (a1 : Int).toNat 0 : List Int)).bind fun y293 => (impl_big.l0 k a0 a1 y293 (y293.length : Int) 0)) else (none)) else (none)) = some r := h
 clear h
 by_cases c3 : 0 ≤ a1
 ·rw [if_pos c3] at H
  have c3b0 := eq_true c3; have c3b1 := decide_eq_true c3; clear c3
  by_cases c4 : (a1 : Int).toNat ≤ 281474976710656
  ·rw [if_pos c4] at H
   have c4b0 := eq_true c4; have c4b1 := decide_eq_true c4; clear c4; obtain ⟨y293, hy293⟩ : ∃ y_ : List Int, y_ = (List.replicate (a1 : Int).toNat 0) := ⟨_, rfl⟩; (replace H : (impl_big.l0 k a0 a1 y293 (y293.length : Int) 0) = some r := by first | (rw [hy293]; with_reducible exact H) | (have H2_ := (Option.bind_some _ _).symm.trans H; rw [hy293]; with_reducible exact H2_) | (have H2_ := (Option.bind_some _ _).symm.trans H; with_reducible exact H2_) | with_reducible exact H | (rw [hy293]; exact H) | exact H); have Ny293 := am_ hy293; clear hy293; have H' := am_ H; clear H
   go_enter Tryz.func19, Tryz.ntmps19
   go_wp2_with (first | ((with_reducible refine gate_dst (N := 8) rfl ?_); refine Kd.R_make (Kd.int .u8) _ 5 rfl (N := 8) rfl 22 _ _ rfl a1 rfl rfl Tryz.underlying22 (.int .u8 0) 1 info5 rfl (by decide) (by omega) 0 (ok := fun _ => True) (okp := fun _ => True) rfl (fun _ hk => hk) trivial (oa_) (Nat.le_trans (Nat.mul_le_mul_right _ (oa_ : a1.toNat ≤ 281474976710656)) (by omega)) (Below.refl _ _) (Nat.le_refl _) ?_; intro v294 w5 ho6 hb hg_ hnew_; clear hg_ hnew_; (first | rw [← Ny293.out] at ho6 | (simp only [Int.reduceToNat] at ho6; rw [← Ny293.out] at ho6)); have HO295 := am_ (Kd.R_lower ho6 (below_size bb_)); replace HB := bs_ hb; clear hb ho6; obtain ⟨Ao7, co7, eo7⟩ := Kd.R_slice HO295.out; subst eo7))
   go_loopg [11] k (fun kq v11 w' => ∃ (x5_1 : List Int) (x11_1 : Int), v11 = .int .i64 x11_1 ∧ Aside0 (impl_big.l0 kq a0 a1 x5_1 (y293.length : Int) x11_1 = some r) ∧ Aside0 (kq ≤ k) ∧ Aside0 (Kd.R (Kd.int .u8) 5 w' w.heap.size (fun _ => True) (.slice Ao7 y293.length co7) x5_1) ∧ Aside0 (Below w.heap.size w w'))
   case atStart => exact ⟨(y293), (0), rs_, H', ⟨Nat.le_refl _⟩, ⟨by (with_reducible repeat (first | apply Kd.R_alloc | apply Kd.R_drewN | apply Kd.R_drew)); exact HO295.out⟩, ⟨bb_⟩⟩
   case round =>
    clear H'; (try clear c1); (try clear p2); (try clear c3); (try clear c3b0); (try clear c3b1); (try clear c4); (try clear c4b0); (try clear c4b1); obtain ⟨x5_1, x11_1, rfl, HA, HK1, HO_5, HB⟩ := hrel; have hl5_1 := (Kd.R_reads' HO_5.out).1; rw [hl5_1] at HO_5; (try simp only [hl5_1])
    cases gk with
    | zero => exact absurd HA.out (by simp [impl_big.l0])
    | succ k1 =>
     have H := HA.out; clear HA; simp only [impl_big.l0] at H
     by_cases c8 : x11_1 < (y293.length : Int)
     ·rw [if_pos c8] at H
      have c8b0 := decide_eq_true c8; (try (have c8b0z := c8b0; simp only [hl5_1] at c8b0z)); clear c8; obtain ⟨ji9, hji9⟩ : ∃ j_ : Int, (wrap64 (8 * x11_1)) = j_ := ⟨_, rfl⟩; (replace H : (if 0 ≤ (ji9) then (if 0 ≤ (wrap64 ((wrap64 (a1 - 1)) - x11_1)) then (if (wrap64 ((wrap64 (a1 - 1)) - x11_1)) < (x5_1.length : Int) then (impl_big.l0 k1 a0 a1 (x5_1.set ((wrap64 ((wrap64 (a1 - 1)) - x11_1)) : Int).toNat ((shr .i64 a0 (ji9)) % 256)) (y293.length : Int) (wrap64 (x11_1 + 1))) else (none)) else (none)) else (none)) = some r := by first | (rw [hji9] at H; exact H) | (simp only [hji9] at H ⊢; exact H)); have hji9w : (IntKind.i64.wrap (8 * x11_1)) = ji9 := (i64_w _).trans hji9
      by_cases c10 : 0 ≤ (ji9)
      ·rw [if_pos c10] at H
       have c10b0 := eq_true c10; have c10b1 := decide_eq_true c10; clear c10; obtain ⟨ji11, hji11⟩ : ∃ j_ : Int, (shr .i64 a0 (ji9)) = j_ := ⟨_, rfl⟩; (replace H : (if 0 ≤ (wrap64 ((wrap64 (a1 - 1)) - x11_1)) then (if (wrap64 ((wrap64 (a1 - 1)) - x11_1)) < (x5_1.length : Int) then (impl_big.l0 k1 a0 a1 (x5_1.set ((wrap64 ((wrap64 (a1 - 1)) - x11_1)) : Int).toNat ((ji11) % 256)) (y293.length : Int) (wrap64 (x11_1 + 1))) else (none)) else (none)) = some r := by first | (rw [hji11] at H; exact H) | (simp only [hji11] at H ⊢; exact H)); have hji11_ : (a0 / 2 ^ min (ji9).toNat 64) = ji11 := hji11; have hji11z : (ji9) ≤ 64 → (a0 / 2 ^ (ji9).toNat) = ji11 := shr_small hji11; obtain ⟨ji12, hji12⟩ : ∃ j_ : Int, (wrap64 ((wrap64 (a1 - 1)) - x11_1)) = j_ := ⟨_, rfl⟩; (replace H : (if 0 ≤ (ji12) then (if (ji12) < (x5_1.length : Int) then (impl_big.l0 k1 a0 a1 (x5_1.set ((ji12) : Int).toNat ((ji11) % 256)) (y293.length : Int) (wrap64 (x11_1 + 1))) else (none)) else (none)) = some r := by first | (rw [hji12] at H; exact H) | (simp only [hji12] at H ⊢; exact H)); have hji12w : (IntKind.i64.wrap ((wrap64 (a1 - 1)) - x11_1)) = ji12 := (i64_w _).trans hji12
       by_cases c13 : 0 ≤ (ji12)
       ·rw [if_pos c13] at H
        have c13b0 := decide_eq_true c13; (try (have c13b0z := c13b0; simp only [hl5_1] at c13b0z)); clear c13
        by_cases c14 : (ji12) < (x5_1.length : Int)
        ·rw [if_pos c14] at H
         have c14b0 := decide_eq_true c14; (try (have c14b0z := c14b0; simp only [hl5_1] at c14b0z)); clear c14; obtain ⟨y296, hy296⟩ : ∃ y_ : List Int, y_ = (x5_1.set ((ji12) : Int).toNat ((ji11) % 256)) := ⟨_, rfl⟩; (replace H : (impl_big.l0 k1 a0 a1 y296 (y293.length : Int) (wrap64 (x11_1 + 1))) = some r := by first | (rw [hy296]; with_reducible exact H) | (have H2_ := (Option.bind_some _ _).symm.trans H; rw [hy296]; with_reducible exact H2_) | (have H2_ := (Option.bind_some _ _).symm.trans H; with_reducible exact H2_) | with_reducible exact H | (rw [hy296]; exact H) | exact H); have Ny296 := am_ hy296; clear hy296; have H' := am_ H; clear H; (have p15 : 0 ≤ ((ji12) : Int) := oa_); (have q15 : ((ji12) : Int) < ((x5_1.length : Int) : Int) := oa_); obtain ⟨go15, co15, eo15, gb15, gl15, cl15, HG15⟩ := Kd.R_form HO_5.out (by omega); (first | cases eo15 | (injection eo15 with ea_ en_ ec_; (first | subst ea_ | (injection ea_ with ea_; subst ea_)); subst ec_; clear en_)); have GB15 := am_ gb15; have GG15 := am_ HG15; clear gb15 gl15 HG15; obtain ⟨hx15_0, hf15_0⟩ := Kd.R_celln 0 HO_5.out ((ji12) : Int) p15 q15; replace p15 := eq_true p15; replace q15 := eq_true q15; have HP16 := Kd.R_putg HO_5.out ((ji12) : Int) ((ji11) % 256)
         go_wp2_with (first | ((with_reducible refine gate_store (t := 5) (p := 24) rfl ?_); refine store_event (t := 5) (p := 24) (v := ?vo_w17) (w1 := (wr.setCell ⟨go15, ((ji12) : Int).toNat, none⟩ (.int .u8 ((ji11) % 256)))) ?hg ?ho ?hn ?hr ?_; (case ho => rfl); (case hg => rfl); (case hn => rfl); (case hr => first | (go_simp; done) | (go_simp; rfl)); intro w17 hw; have hg : wr.grownBy w17 (some go15) := (by rw [hw]; exact HP16.2); have hp_ : Kd.R (Kd.int .u8) 5 w17 w.heap.size (fun _ => True) (.slice (some ⟨go15, 0, none⟩) x5_1.length co7) y296 := (by rw [hw, Ny296.out]; exact HP16.1); clear HP16; replace HO_5 := am_ (hp_); replace HB := am_ ((by rw [hw]; exact below_set (HB.out) GB15.out : Below w.heap.size w w17)); clear hg hw hp_))
         (try simp only [← hl5_1])
         go_roundg k1
         case measure => have := HK1.out; omega
         case rel => exact ⟨(y296), (wrap64 (x11_1 + 1)), rs_, H', ⟨by have := HK1.out; omega⟩, ⟨by (try simp only [hl5_1]); (with_reducible repeat (first | apply Kd.R_alloc | apply Kd.R_drewN | apply Kd.R_drew)); exact HO_5.out⟩, ⟨bb_⟩⟩
        ·rw [if_neg c14] at H
         exact nn_ H
       ·rw [if_neg c13] at H
        exact nn_ H
      ·rw [if_neg c10] at H
       exact nn_ H
     ·rw [if_neg c8] at H
      have c8b0 := decide_eq_false c8; (try (have c8b0z := c8b0; simp only [hl5_1] at c8b0z)); clear c8; obtain rfl := Option.some.inj H; have hcv18 := own_string (P := Tryz.prog) Tryz.underlying22 Tryz.underlying5 Tryz.underlying9 (Kd.own_of_R HO_5.out)
      go_wp2
      go_ret
      exact ⟨er_, bb_⟩
  ·rw [if_neg c4] at H
   exact nn_ H
 ·rw [if_neg c3] at H
  exact nn_ H

/-! ### impl_PutValue: function 20 -/
def impl_PutValue.f (k : Nat) (a0_0 : Int) (a0_1 : Int) (a0_2 : ByteArray) : Option (ByteArray) := (impl_ValueOk.f a0_0 a0_1 a0_2).bind fun t298 => (if t298 = true then ((impl_big.f k a0_0 1).bind fun t299 => (if a0_0 = 1 then ((impl_big.f k a0_1 8).bind fun t300 => (if t299.size + t300.size ≤ 9223372036854775807 then (some (t299 ++ t300)) else (none))) else (if a0_0 = 2 then ((impl_big.f k a0_1 1).bind fun t301 => (if t299.size + t301.size ≤ 9223372036854775807 then (some (t299 ++ t301)) else (none))) else (if a0_0 = 3 then ((impl_big.f k (a0_2.size : Int) 1).bind fun t302 => (if t299.size + t302.size ≤ 9223372036854775807 then (if (t299 ++ t302).size + a0_2.size ≤ 9223372036854775807 then (some ((t299 ++ t302) ++ a0_2)) else (none)) else (none))) else (some t299))))) else (some (⟨#[]⟩ : ByteArray)))
def impl_PutValue.T10 : Bool × List (List Nat × List Nat) := (true, [([], []), ([], []), ([1], [1]), ([2], [2]), ([3], [3]), ([0, 4], [0, 4]), ([], []), ([6], [6]), ([5, 7], [5, 7]), ([8, 4, 0, 1, 2, 3, 4, 5, 6, 7, 8], [8])])
def impl_PutValue.B10 : List Nat := [0, 0, 2, 6, 14, 31, 0, 64, 255, 511]
theorem impl_PutValue.tab10 : rtab .any (opsOf Tryz.f20 10) = impl_PutValue.T10 := by kernel_rfl
theorem impl_PutValue.bits10 : waitsOk impl_PutValue.T10.2 impl_PutValue.B10 = true := by kernel_rfl
set_option maxHeartbeats 8000000 in
set_option maxRecDepth 100000 in
theorem impl_PutValue.calls (k : Nat) (a0_0 : Int) (a0_1 : Int) (a0_2 : ByteArray) (r : ByteArray) (w : World) (h : impl_PutValue.f k a0_0 a0_1 a0_2 = some r) :
  Calls Tryz.prog 20 #[.agg #[.int .i64 a0_0, .int .i64 a0_1, .string a0_2]] w fun e w' => e = .returned (.string r) ∧ Below w.heap.size w w' := by
 have hu50 := Tryz.underlying50
 have HB := am_ (Below.refl w.heap.size w)
 have H : ((impl_ValueOk.f a0_0 a0_1 a0_2).bind fun t298 => (if t298 = true then ((impl_big.f k a0_0 1).bind fun t299 => (if a0_0 = 1 then ((impl_big.f k a0_1 8).bind fun t300 => (if t299.size + t300.size ≤ 9223372036854775807 then (some (t299 ++ t300)) else (none))) else (if a0_0 = 2 then ((impl_big.f k a0_1 1).bind fun t301 => (if t299.size + t301.size ≤ 9223372036854775807 then (some (t299 ++ t301)) else (none))) else (if a0_0 = 3 then ((impl_big.f k (a0_2.size : Int) 1).bind fun t302 => (if t299.size + t302.size ≤ 9223372036854775807 then (if (t299 ++ t302).size + a0_2.size ≤ 9223372036854775807 then (some ((t299 ++ t302) ++ a0_2)) else (none)) else (none))) else (some t299))))) else (some (⟨#[]⟩ : ByteArray)))) = some r := h
 clear h
 replace H := bsi_ H
 obtain ⟨t298, A20, H⟩ := H
 try dsimp only at H
 have A2 := am_ A20
 clear A20
 by_cases c3 : t298 = true
 ·subst c3
  rw [if_pos rfl] at H; replace H := bsi_ H; obtain ⟨t299, A40, H⟩ := H
  try dsimp only at H
  have A4 := am_ A40; clear A40
  by_cases c5 : a0_0 = 1
  ·rw [if_pos c5] at H
   have c5b0 : (a0_0 == 1) = true := beq_iff_eq.mpr c5; have c5b1 : (a0_0 != 1) = false := bne_eq_false_iff_eq.mpr c5; clear c5; replace H := bsi_ H; obtain ⟨t300, A60, H⟩ := H
   try dsimp only at H
   have A6 := am_ A60; clear A60
   by_cases c7 : t299.size + t300.size ≤ 9223372036854775807
   ·rw [if_pos c7] at H
    have c7b0 := eq_true c7; have c7b1 := decide_eq_true c7
    try have c7b2 : (9223372036854775807 < t299.size + t300.size) = False := eq_false (Nat.not_lt.2 c7)
    obtain rfl := Option.some.inj H
    go_enter Tryz.func20, Tryz.ntmps20
    go_wp2_with (first | ((with_reducible refine gate_dst (N := 1) rfl ?_); refine bx_ 1 #[.int .i64 a0_0, .int .i64 a0_1, .string a0_2] 50 ?_; intro gb297 hg w8 hbox hb; have BK297 := am_ (hbox); have GW297 := gw_ hg; have GE297 := gw_ hg; replace HB := bs_ hb; clear hb hbox hg; obtain ⟨hcz9_0, hcz9_1, hcz9_2, hfz9_0, hfz9_1, hfz9_2⟩ := b3_ BK297) | ((with_reducible refine gate_callee (f := 46) rfl ?_); refine gsL_ (some 5) Tryz.func46 #[.agg #[.int .i64 a0_0, .int .i64 a0_1, .string a0_2]] ?_; (with_reducible refine (impl_ValueOk.calls a0_0 a0_1 a0_2 true _ A2.out).mono ?_); rintro e w10 ⟨rfl, hb⟩; refine ⟨_, rfl, ?_⟩; replace BK297 := bkb_ BK297 hb; replace HB := bs_ hb; (try clear hb); obtain ⟨hcz11_0, hcz11_1, hcz11_2, hfz11_0, hfz11_1, hfz11_2⟩ := b3_ BK297) | ((with_reducible refine gate_callee (f := 19) rfl ?_); refine gsL_ (some 9) Tryz.func19 #[.int .i64 a0_0, .int .i64 1] ?_; (with_reducible refine (impl_big.calls k a0_0 1 t299 _ A4.out).mono ?_); rintro e w12 ⟨rfl, hb⟩; refine ⟨_, rfl, ?_⟩; replace BK297 := bkb_ BK297 hb; replace HB := bs_ hb; (try clear hb); obtain ⟨hcz13_0, hcz13_1, hcz13_2, hfz13_0, hfz13_1, hfz13_2⟩ := b3_ BK297) | ((with_reducible refine gate_callee (f := 19) rfl ?_); refine gsL_ (some 17) Tryz.func19 #[.int .i64 a0_1, .int .i64 8] ?_; (with_reducible refine (impl_big.calls k a0_1 8 t300 _ A6.out).mono ?_); rintro e w14 ⟨rfl, hb⟩; refine ⟨_, rfl, ?_⟩; replace BK297 := bkb_ BK297 hb; replace HB := bs_ hb; (try clear hb)))
    go_ret
    exact ⟨er_, bb_⟩
   ·rw [if_neg c7] at H
    exact nn_ H
  ·rw [if_neg c5] at H
   have c5b0 : (a0_0 == 1) = false := beq_eq_false_iff_ne.mpr c5; have c5b1 : (a0_0 != 1) = true := bne_iff_ne.mpr c5
   by_cases c15 : a0_0 = 2
   ·rw [if_pos c15] at H
    have c15b0 : (a0_0 == 2) = true := beq_iff_eq.mpr c15; have c15b1 : (a0_0 != 2) = false := bne_eq_false_iff_eq.mpr c15; clear c15; replace H := bsi_ H; obtain ⟨t301, A160, H⟩ := H
    try dsimp only at H
    have A16 := am_ A160; clear A160
    by_cases c17 : t299.size + t301.size ≤ 9223372036854775807
    ·rw [if_pos c17] at H
     have c17b0 := eq_true c17; have c17b1 := decide_eq_true c17
     try have c17b2 : (9223372036854775807 < t299.size + t301.size) = False := eq_false (Nat.not_lt.2 c17)
     obtain rfl := Option.some.inj H
     go_enter Tryz.func20, Tryz.ntmps20
     go_wp2_with (first | ((with_reducible refine gate_dst (N := 1) rfl ?_); refine bx_ 1 #[.int .i64 a0_0, .int .i64 a0_1, .string a0_2] 50 ?_; intro gb297 hg w18 hbox hb; have BK297 := am_ (hbox); have GW297 := gw_ hg; have GE297 := gw_ hg; replace HB := bs_ hb; clear hb hbox hg; obtain ⟨hcz19_0, hcz19_1, hcz19_2, hfz19_0, hfz19_1, hfz19_2⟩ := b3_ BK297) | ((with_reducible refine gate_callee (f := 46) rfl ?_); refine gsL_ (some 5) Tryz.func46 #[.agg #[.int .i64 a0_0, .int .i64 a0_1, .string a0_2]] ?_; (with_reducible refine (impl_ValueOk.calls a0_0 a0_1 a0_2 true _ A2.out).mono ?_); rintro e w20 ⟨rfl, hb⟩; refine ⟨_, rfl, ?_⟩; replace BK297 := bkb_ BK297 hb; replace HB := bs_ hb; (try clear hb); obtain ⟨hcz21_0, hcz21_1, hcz21_2, hfz21_0, hfz21_1, hfz21_2⟩ := b3_ BK297) | ((with_reducible refine gate_callee (f := 19) rfl ?_); refine gsL_ (some 9) Tryz.func19 #[.int .i64 a0_0, .int .i64 1] ?_; (with_reducible refine (impl_big.calls k a0_0 1 t299 _ A4.out).mono ?_); rintro e w22 ⟨rfl, hb⟩; refine ⟨_, rfl, ?_⟩; replace BK297 := bkb_ BK297 hb; replace HB := bs_ hb; (try clear hb); obtain ⟨hcz23_0, hcz23_1, hcz23_2, hfz23_0, hfz23_1, hfz23_2⟩ := b3_ BK297) | ((with_reducible refine gate_callee (f := 19) rfl ?_); refine gsL_ (some 24) Tryz.func19 #[.int .i64 a0_1, .int .i64 1] ?_; (with_reducible refine (impl_big.calls k a0_1 1 t301 _ A16.out).mono ?_); rintro e w24 ⟨rfl, hb⟩; refine ⟨_, rfl, ?_⟩; replace BK297 := bkb_ BK297 hb; replace HB := bs_ hb; (try clear hb)))
     go_ret
     exact ⟨er_, bb_⟩
    ·rw [if_neg c17] at H
     exact nn_ H
   ·rw [if_neg c15] at H
    have c15b0 : (a0_0 == 2) = false := beq_eq_false_iff_ne.mpr c15; have c15b1 : (a0_0 != 2) = true := bne_iff_ne.mpr c15
    by_cases c25 : a0_0 = 3
    ·rw [if_pos c25] at H
     have c25b0 : (a0_0 == 3) = true := beq_iff_eq.mpr c25; have c25b1 : (a0_0 != 3) = false := bne_eq_false_iff_eq.mpr c25; clear c25; replace H := bsi_ H; obtain ⟨t302, A260, H⟩ := H
     try dsimp only at H
     have A26 := am_ A260; clear A260
     by_cases c27 : t299.size + t302.size ≤ 9223372036854775807
     ·rw [if_pos c27] at H
      have c27b0 := eq_true c27; have c27b1 := decide_eq_true c27
      try have c27b2 : (9223372036854775807 < t299.size + t302.size) = False := eq_false (Nat.not_lt.2 c27)
      by_cases c28 : (t299 ++ t302).size + a0_2.size ≤ 9223372036854775807
      ·rw [if_pos c28] at H
       have c28b0 := eq_true c28; have c28b1 := decide_eq_true c28
       try have c28b2 : (9223372036854775807 < (t299 ++ t302).size + a0_2.size) = False := eq_false (Nat.not_lt.2 c28)
       (try (have c28b0z := c28b0; simp only [ByteArray.size_append] at c28b0z)); (try (have c28b1z := c28b1; simp only [ByteArray.size_append] at c28b1z)); (try (have c28b2z := c28b2; simp only [ByteArray.size_append] at c28b2z)); (try (have c28b2y : (9223372036854775807 < t299.size + t302.size + a0_2.size) = False := by (apply eq_false; have hq_ := c28; simp only [ByteArray.size_append, ByteArray.size_extract] at hq_; omega))); obtain rfl := Option.some.inj H
       go_enter Tryz.func20, Tryz.ntmps20
       try go_wp2_with (first | ((with_reducible refine gate_dst (N := 1) rfl ?_); refine bx_ 1 #[.int .i64 a0_0, .int .i64 a0_1, .string a0_2] 50 ?_; intro gb297 hg w29 hbox hb; have BK297 := am_ (hbox); have GW297 := gw_ hg; have GE297 := gw_ hg; replace HB := bs_ hb; clear hb hbox hg; obtain ⟨hcz30_0, hcz30_1, hcz30_2, hfz30_0, hfz30_1, hfz30_2⟩ := b3_ BK297) | ((with_reducible refine gate_callee (f := 46) rfl ?_); refine gsL_ (some 5) Tryz.func46 #[.agg #[.int .i64 a0_0, .int .i64 a0_1, .string a0_2]] ?_; (with_reducible refine (impl_ValueOk.calls a0_0 a0_1 a0_2 true _ A2.out).mono ?_); rintro e w31 ⟨rfl, hb⟩; refine ⟨_, rfl, ?_⟩; replace BK297 := bkb_ BK297 hb; replace HB := bs_ hb; (try clear hb); obtain ⟨hcz32_0, hcz32_1, hcz32_2, hfz32_0, hfz32_1, hfz32_2⟩ := b3_ BK297) | ((with_reducible refine gate_callee (f := 19) rfl ?_); refine gsL_ (some 9) Tryz.func19 #[.int .i64 a0_0, .int .i64 1] ?_; (with_reducible refine (impl_big.calls k a0_0 1 t299 _ A4.out).mono ?_); rintro e w33 ⟨rfl, hb⟩; refine ⟨_, rfl, ?_⟩; replace BK297 := bkb_ BK297 hb; replace HB := bs_ hb; (try clear hb); obtain ⟨hcz34_0, hcz34_1, hcz34_2, hfz34_0, hfz34_1, hfz34_2⟩ := b3_ BK297))
       replace BK297 := am_ (blk_drew BK297.out); replace HB := am_ (below_drew1 HB.out); (refine start_ (n := 10) (S := fun w' => w'.cell? ⟨gb297, 0, none⟩ = some (.int .i64 a0_0) ∧ w'.cell? ⟨gb297, 1, none⟩ = some (.int .i64 a0_1) ∧ w'.cell? ⟨gb297, 2, none⟩ = some (.string a0_2)) (ds := []) (tf 0 10) (by kernel_rfl) rfl rfl ⟨bc_ BK297 0, bc_ BK297 1, bc_ BK297 2⟩ (fun hHeld => ?_); refine with_tabW impl_PutValue.tab10 impl_PutValue.bits10 (fun HT_ HW_ => ?_)); generalize w33.drew = w35 at BK297 HB hHeld ⊢
       iterate 2 (refine pl_ ?_)
       refine plx_ 6 #[true, true, false, false, false, false, true, false, false, false] ?_; refine tlx_ 2 #[true, true, true, false, false, false, true, false, false, false] ?_; refine plx_ 3 #[true, true, true, true, false, false, true, false, false, false] ?_; refine tlx_ 7 #[true, true, true, true, false, false, true, true, false, false] ?_; refine on1_ (i := 4) (N := some 32) #[true, true, true, true, true, false, true, true, false, false] (h := fun K hK => ?_); refine gs_ Tryz.func19 #[.int .i64 (a0_2.size : Int), .int .i64 1] ?_; (with_reducible refine (impl_big.calls k (a0_2.size : Int) 1 t302 _ A26.out).mono ?_); rintro e w36 ⟨rfl, hb⟩; refine ⟨_, rfl, ?_⟩; replace BK297 := bkb_ BK297 hb; replace HB := bs_ hb; (try clear hb); refine hK.out _ _ ⟨bc_ BK297 0, bc_ BK297 1, bc_ BK297 2⟩ (fun hHeld => ?_); clear hK K; refine nm_ ?_; refine plx_ 5 (tf 8 2) ?_
       iterate 2 (refine pl_ ?_)
       refine done_ (done_of HT_.out (by kernel_rfl)) ?_
       try go_wp2
       go_ret
       exact ⟨er_, bb_⟩
      ·rw [if_neg c28] at H
       exact nn_ H
     ·rw [if_neg c27] at H
      exact nn_ H
    ·rw [if_neg c25] at H
     have c25b0 : (a0_0 == 3) = false := beq_eq_false_iff_ne.mpr c25; have c25b1 : (a0_0 != 3) = true := bne_iff_ne.mpr c25; obtain rfl := Option.some.inj H
     go_enter Tryz.func20, Tryz.ntmps20
     go_wp2_with (first | ((with_reducible refine gate_dst (N := 1) rfl ?_); refine bx_ 1 #[.int .i64 a0_0, .int .i64 a0_1, .string a0_2] 50 ?_; intro gb297 hg w37 hbox hb; have BK297 := am_ (hbox); have GW297 := gw_ hg; have GE297 := gw_ hg; replace HB := bs_ hb; clear hb hbox hg; obtain ⟨hcz38_0, hcz38_1, hcz38_2, hfz38_0, hfz38_1, hfz38_2⟩ := b3_ BK297) | ((with_reducible refine gate_callee (f := 46) rfl ?_); refine gsL_ (some 5) Tryz.func46 #[.agg #[.int .i64 a0_0, .int .i64 a0_1, .string a0_2]] ?_; (with_reducible refine (impl_ValueOk.calls a0_0 a0_1 a0_2 true _ A2.out).mono ?_); rintro e w39 ⟨rfl, hb⟩; refine ⟨_, rfl, ?_⟩; replace BK297 := bkb_ BK297 hb; replace HB := bs_ hb; (try clear hb); obtain ⟨hcz40_0, hcz40_1, hcz40_2, hfz40_0, hfz40_1, hfz40_2⟩ := b3_ BK297) | ((with_reducible refine gate_callee (f := 19) rfl ?_); refine gsL_ (some 9) Tryz.func19 #[.int .i64 a0_0, .int .i64 1] ?_; (with_reducible refine (impl_big.calls k a0_0 1 t299 _ A4.out).mono ?_); rintro e w41 ⟨rfl, hb⟩; refine ⟨_, rfl, ?_⟩; replace BK297 := bkb_ BK297 hb; replace HB := bs_ hb; (try clear hb); obtain ⟨hcz42_0, hcz42_1, hcz42_2, hfz42_0, hfz42_1, hfz42_2⟩ := b3_ BK297))
     go_ret
     exact ⟨er_, bb_⟩
 ·replace c3 := Bool.eq_false_iff.mpr c3
  subst c3; (rw [if_neg (show ¬ (false = true) by decide)] at H); obtain rfl := Option.some.inj H
  go_enter Tryz.func20, Tryz.ntmps20
  go_wp2_with (first | ((with_reducible refine gate_dst (N := 1) rfl ?_); refine bx_ 1 #[.int .i64 a0_0, .int .i64 a0_1, .string a0_2] 50 ?_; intro gb297 hg w43 hbox hb; have BK297 := am_ (hbox); have GW297 := gw_ hg; have GE297 := gw_ hg; replace HB := bs_ hb; clear hb hbox hg; obtain ⟨hcz44_0, hcz44_1, hcz44_2, hfz44_0, hfz44_1, hfz44_2⟩ := b3_ BK297) | ((with_reducible refine gate_callee (f := 46) rfl ?_); refine gsL_ (some 5) Tryz.func46 #[.agg #[.int .i64 a0_0, .int .i64 a0_1, .string a0_2]] ?_; (with_reducible refine (impl_ValueOk.calls a0_0 a0_1 a0_2 false _ A2.out).mono ?_); rintro e w45 ⟨rfl, hb⟩; refine ⟨_, rfl, ?_⟩; replace BK297 := bkb_ BK297 hb; replace HB := bs_ hb; (try clear hb)))
  go_ret
  exact ⟨er_, bb_⟩

/-! ### impl_number: function 21 -/
def impl_number.f (a0 : Int) : Option (Int × Int × ByteArray) := some (1, a0, (⟨#[]⟩ : ByteArray))
set_option maxHeartbeats 8000000 in
set_option maxRecDepth 100000 in
theorem impl_number.calls (a0 : Int) (r1 : Int) (r2 : Int) (r3 : ByteArray) (w : World) (h : impl_number.f a0 = some (r1, r2, r3)) :
  Calls Tryz.prog 21 #[.int .i64 a0] w fun e w' => e = .returned (.agg #[.int .i64 r1, .int .i64 r2, .string r3]) ∧ Below w.heap.size w w' := by
 have hu50 := Tryz.underlying50
 have HB := am_ (Below.refl w.heap.size w)
 have H : (some (1, a0, (⟨#[]⟩ : ByteArray))) = some (r1, r2, r3) := h
 clear h
 simp only [Option.some.injEq, Prod.mk.injEq] at H
 obtain ⟨rfl, rfl, rfl⟩ := H
 go_enter Tryz.func21, Tryz.ntmps21
 go_wp2_with (first | ((with_reducible refine gate_dst (N := 2) rfl ?_); refine bx_ 2 #[.int .i64 0, .int .i64 0, .string (⟨#[]⟩ : ByteArray)] 50 ?_; intro gb303 hg w2 hbox hb; have BK303 := am_ (hbox); have GW303 := gw_ hg; have GE303 := gw_ hg; replace HB := bs_ hb; clear hb hbox hg; obtain ⟨hcz3_0, hcz3_1, hcz3_2, hfz3_0, hfz3_1, hfz3_2⟩ := b3_ BK303))
 refine bodyPost_ret (results_cell_row rfl _ _ gb303 50 #[.int .i64 1, .int .i64 a0, .string (⟨#[]⟩ : ByteArray)] (0, 0) _ rfl (bp3_ (bkx_ BK303.out)) Tryz.underlying50 rfl (by kernel_rfl)) rfl ?_
 exact ⟨er_, bb_⟩

-- NOT PRINTED: function 22 (strings_Builder_String)

/-! ### impl_PutBag: function 6 -/
-- by hand
mutual
def impl_PutBag.l0 : Nat → ByteArray → List (S47) → Int → Int → Option (ByteArray)
 | 0, _, _, _, _ => none
 | k + 1, x3, x16, x17, x18 => if x18 < x17 then (if 0 ≤ x18 then (if x18 < (x16.length : Int) then ((impl_number.f ((rd_T47 x16 x18).f1)).bind fun bt231 => ((impl_PutValue.f k bt231.1 bt231.2.1 bt231.2.2).bind fun t234 => (if x3.size + t234.size ≤ 140737488355328 then (impl_PutBag.l1 k (x3 ++ t234) x16 x17 x18 ((rd_T47 x16 x18).f0) (((rd_T47 x16 x18).f0).length : Int) 0) else (none)))) else (none)) else (none)) else (some x3)
def impl_PutBag.l1 : Nat → ByteArray → List (S47) → Int → Int → List (S50) → Int → Int → Option (ByteArray)
 | 0, _, _, _, _, _, _, _ => none
 | k + 1, x3, x16, x17, x18, x28, x29, x30 => if x30 < x29 then (if 0 ≤ x30 then (if x30 < (x28.length : Int) then ((impl_PutValue.f k ((rd_T50 x28 x30).f0) ((rd_T50 x28 x30).f1) ((rd_T50 x28 x30).f2)).bind fun t237 => (if x3.size + t237.size ≤ 140737488355328 then (impl_PutBag.l1 k (x3 ++ t237) x16 x17 x18 x28 x29 (wrap64 (x30 + 1))) else (none))) else (none)) else (none)) else (impl_PutBag.l0 k x3 x16 x17 (wrap64 (x18 + 1)))
end
def impl_PutBag.f (k : Nat) (a0_0 : Int) (l0_1 : List (S47)) : Option (ByteArray) := (impl_BagOk.f k a0_0 l0_1).bind fun t227 => (if t227 = true then ((impl_big.f k a0_0 1).bind fun t228 => (if 0 + t228.size ≤ 140737488355328 then (impl_PutBag.l0 k ((⟨#[]⟩ : ByteArray) ++ t228) l0_1 (l0_1.length : Int) 0) else (none))) else (some (⟨#[]⟩ : ByteArray)))
theorem isB_below {T e : TypeId} {B b : Nat} {bs : List Value} {W W' : World} (h : Lib.IsBuilderF T e B b bs W) (hb : Below W.heap.size W W') : Lib.IsBuilderF T e B b bs W' := by
 have one : ∀ p, Lib.BuilderAtF T e B b p bs W → Lib.BuilderAtF T e B b p bs W' := fun p h => by
  have hlt := h.lt
  obtain ⟨hB, v, hv, hown, hne⟩ := h
  exact ⟨hB, v, (hb.block b hlt).trans hv, hown.kept (row := none) ⟨hb.os, hb.tape, hb.output, hb.size, fun k hk _ => hb.block k hk⟩ (Classical.em _), hne⟩
 exact h.elim (fun x => .inl (one _ x)) (fun x => .inr (one _ x))
theorem isB_new {T e : TypeId} {b : Nat} {W : World} (h : W.heap[b]? = some (.cells #[.pointer none, .slice none 0 0] T (0, 0))) : Lib.IsBuilderF T e b b [] W :=
 Lib.IsBuilderF.of (Or.inl ⟨Nat.le_refl _, .slice none 0 0, h, World.ownsRow_nil _ _ _ _, by simp [Value.ownBlock]⟩)
theorem isB_lt {T e : TypeId} {B b : Nat} {bs : List Value} {W : World} (h : Lib.IsBuilderF T e B b bs W) : b < W.heap.size := h.elim (fun x => x.lt) (fun x => x.lt)
theorem isB_more {T e : TypeId} {B b : Nat} {x s : ByteArray} {W : World} (h : Lib.BuilderAtF T e B b (.pointer (some ⟨b, 0, none⟩)) (Lib.byteCells x.data.toList ++ Lib.strCells s) W) : Lib.IsBuilderF T e B b (Lib.byteCells (x ++ s).data.toList) W := by
 rw [ByteArray.data_append, Array.toList_append, Lib.byteCells_append, ← Lib.strCells_eq s]
 exact Or.inr h
theorem isB_keep {T e t : TypeId} {B b g : Nat} {bs : List Value} {cs : Array Value} {W W' : World} (h : Lib.IsBuilderF T e B b bs W) (hk : Lib.OthersKept e (some b) W W') (hg : W.heap[g]? = some (.cells cs t (0, 0))) (h1 : t ≠ T) (h2 : t ≠ e) : W'.heap[g]? = some (.cells cs t (0, 0)) := by
 refine hk g _ hg (fun q => ?_) (fun c fz q => ?_)
 · injection q with q
   subst q
   have one : ∀ p, ¬ Lib.BuilderAtF T e B g p bs W := fun p h => by
    obtain ⟨_, v, hv, _⟩ := h
    rw [hv] at hg
    simp only [Option.some.injEq, Obj.cells.injEq] at hg
    exact h1 hg.2.1.symm
   exact h.elim (one _) (one _)
 · simp only [Obj.cells.injEq] at q
   exact h2 q.2.1
set_option maxHeartbeats 8000000 in
set_option maxRecDepth 100000 in
theorem impl_PutBag.calls (k : Nat) (a0_0 : Int) (A0_1 : Option Addr) (c0_1 : Nat) (l0_1 : List (S47)) (r : ByteArray) (w : World) (hr0_1 : Kd.C k47 w A0_1 l0_1.length l0_1) (hc0_1 : l0_1.length ≤ c0_1) (h : impl_PutBag.f k a0_0 l0_1 = some r) :
  Calls Tryz.prog 6 #[.agg #[.int .i64 a0_0, .slice A0_1 l0_1.length c0_1]] w fun e w' => e = .returned (.string r) ∧ Below w.heap.size w w' := by
 have hu26 := Tryz.underlying26
 have hu47 := Tryz.underlying47
 have hu50 := Tryz.underlying50
 have HR0_1 := am_ hr0_1
 have HC0_1 := am_ hc0_1
 clear hr0_1 hc0_1
 have HB := am_ (Below.refl w.heap.size w)
 have H : ((impl_BagOk.f k a0_0 l0_1).bind fun t227 => (if t227 = true then ((impl_big.f k a0_0 1).bind fun t228 => (if 0 + t228.size ≤ 140737488355328 then (impl_PutBag.l0 k ((⟨#[]⟩ : ByteArray) ++ t228) l0_1 (l0_1.length : Int) 0) else (none))) else (some (⟨#[]⟩ : ByteArray)))) = some r := h
 clear h
 replace H := bsi_ H
 obtain ⟨t227, A20, H⟩ := H
 try dsimp only at H
 have A2 := am_ A20
 clear A20
 by_cases c3 : t227 = true
 ·subst c3
  rw [if_pos rfl] at H
  replace H := bsi_ H
  obtain ⟨t228, A40, H⟩ := H
  try dsimp only at H
  have A4 := am_ A40
  clear A40
  by_cases c5 : 0 + t228.size ≤ 140737488355328
  ·rw [if_pos c5] at H
   have LMc5 := am_ c5
   have c5b0 := eq_true c5
   have c5b1 := decide_eq_true c5
   try have c5b2 : (9223372036854775807 < 0 + t228.size) = False := eq_false (Nat.not_lt.2 c5)
   have H' := am_ H
   clear H
   go_enter Tryz.func6, Tryz.ntmps6
   go_wp2_with (first | ((with_reducible refine gate_dst (N := 1) rfl ?_); refine bx_ 1 #[.int .i64 a0_0, .slice A0_1 l0_1.length c0_1] 26 ?_; intro gb226 hg w6 hbox hb; have BK226 := am_ (hbox); have GW226 := gw_ hg; have GE226 := gw_ hg; replace HB := bs_ hb; clear hb hbox hg; obtain ⟨hcz7_0, hcz7_1, hfz7_0, hfz7_1⟩ := b2_ BK226) | ((with_reducible refine gate_callee (f := 17) rfl ?_); refine gsL_ (some 9) Tryz.func17 #[.agg #[.int .i64 a0_0, .slice A0_1 l0_1.length c0_1]] ?_; (with_reducible refine (impl_BagOk.calls k a0_0 _ _ l0_1 true _ ?side1 ?side2 A2.out).mono ?_); (case side1 => exact ck_ (Kd.C_below HR0_1.out HB.out)); (case side2 => exact HC0_1.out); rintro e w8 ⟨rfl, hb⟩; refine ⟨_, rfl, ?_⟩; replace BK226 := bkb_ BK226 hb; replace HB := bs_ hb; (try clear hb); (try clear hb2); (try clear hk); (try clear hi); obtain ⟨hcz9_0, hcz9_1, hfz9_0, hfz9_1⟩ := b2_ BK226) | ((with_reducible refine gate_callee (f := 19) rfl ?_); refine gsL_ (some 13) Tryz.func19 #[.int .i64 a0_0, .int .i64 1] ?_; (with_reducible refine (impl_big.calls k a0_0 1 t228 _ A4.out).mono ?_); rintro e w10 ⟨rfl, hb⟩; refine ⟨_, rfl, ?_⟩; replace BK226 := bkb_ BK226 hb; replace HB := bs_ hb; replace IB := am_ (isB_below IB.out hb); (try clear hb); (try clear hb2); (try clear hk); (try clear hi); obtain ⟨hcz11_0, hcz11_1, hfz11_0, hfz11_1⟩ := b2_ BK226) | ((with_reducible refine gate_dst (N := 3) rfl ?_); refine bx_ 3 #[.pointer none, .slice none 0 0] 39 ?_; intro gb3 hg w5b hbox hb; have LW6 := gw_ hg; have IB := am_ (isB_new (e := 5) hbox); replace BK226 := bkb_ BK226 hb; replace HB := bs_ hb; clear hb hbox hg; obtain ⟨hcy_0, hcy_1, hfy_0, hfy_1⟩ := b2_ BK226) | (go_at_call 18; (refine (Tryz.Builder_WriteString_k gb3 gb3 (Lib.byteCells (⟨#[]⟩ : ByteArray).data.toList) t228 _ IB.out ?side1 ?side2).mono ?_); (case side1 => rw [Lib.byteCells_length, Array.length_toList]; exact LMc5.out); (case side2 => exact Nat.le_of_lt (isB_lt IB.out)); rintro e w12 ⟨rfl, hi, hb, hk⟩; have nk0 := am_ (isB_keep IB.out hk (bkx_ BK226.out) (by decide) (by decide)); have nh := am_ (HB.out.trans (hb.mono LW6.out)); have ni := am_ (isB_more hi); clear BK226 HB IB hi hb hk; have BK226 := nk0; have HB := nh; have IB := ni; clear nk0 nh ni; obtain ⟨hcx_0, hcx_1, hfx_0, hfx_1⟩ := b2_ BK226))
   go_loopg [18] k (fun kq v18 w' => ∃ (x3_1 : ByteArray) (x18_1 : Int), v18 = .int .i64 x18_1 ∧ Aside0 (impl_PutBag.l0 kq x3_1 l0_1 (l0_1.length : Int) x18_1 = some r) ∧ Aside0 (kq ≤ k) ∧ Aside0 (w'.heap[gb226]? = some (.cells #[.int .i64 a0_0, (.slice A0_1 l0_1.length c0_1)] 26 (0, 0))) ∧ Aside0 (Lib.IsBuilderF 39 5 gb3 gb3 (Lib.byteCells x3_1.data.toList) w') ∧ Aside0 (Below w.heap.size w w'))
   case atStart => exact ⟨((⟨#[]⟩ : ByteArray) ++ t228), (0), rs_, H', ⟨Nat.le_refl _⟩, ⟨bkx_ BK226.out⟩, IB, ⟨bb_⟩⟩
   case round =>
    clear H'
    try clear c1
    try clear c2
    try clear p2
    try clear c3
    try clear c5
    try clear c5b0
    try clear c5b1
    try clear c5b2
    try clear c8
    try clear hcz11_0
    try clear hcz11_1
    try clear hcz7_0
    try clear hcz7_1
    try clear hcz9_0
    try clear hcz9_1
    try clear hfz11_0
    try clear hfz11_1
    try clear hfz7_0
    try clear hfz7_1
    try clear hfz9_0
    try clear hfz9_1
    try clear hcy_0
    try clear hcy_1
    try clear hfy_0
    try clear hfy_1
    try clear hcx_0
    try clear hcx_1
    try clear hfx_0
    try clear hfx_1
    obtain ⟨x3_1, x18_1, rfl, HA, HK1, BK226, IB, HB⟩ := hrel
    obtain ⟨W1, hW1⟩ : ∃ W1, W1 = wr := ⟨wr, rfl⟩
    subst hW1
    cases gk with
    | zero => exact absurd HA.out (by simp [impl_PutBag.l0])
    | succ k1 =>
     have H := HA.out
     clear HA
     simp only [impl_PutBag.l0] at H
     by_cases c12 : x18_1 < (l0_1.length : Int)
     ·rw [if_pos c12] at H
      have c12b0 := decide_eq_true c12
      clear c12
      by_cases c13 : 0 ≤ x18_1
      ·rw [if_pos c13] at H
       have c13b0 := decide_eq_true c13
       clear c13
       by_cases c14 : x18_1 < (l0_1.length : Int)
       ·rw [if_pos c14] at H
        have c14b0 := decide_eq_true c14
        clear c14
        replace H := bsi_ H
        obtain ⟨⟨t231, t232, t233⟩, A150, H⟩ := H
        try dsimp only at H
        have A15 := am_ A150
        clear A150
        replace H := bsi_ H
        obtain ⟨t234, A160, H⟩ := H
        try dsimp only at H
        have A16 := am_ A160
        clear A160
        by_cases c17 : x3_1.size + t234.size ≤ 140737488355328
        ·rw [if_pos c17] at H
         have LMc17 := am_ c17
         have c17b0 := eq_true c17
         have c17b1 := decide_eq_true c17
         try have c17b2 : (9223372036854775807 < x3_1.size + t234.size) = False := eq_false (Nat.not_lt.2 c17)
         have H' := am_ H
         clear H
         have p229 : 0 ≤ (x18_1 : Int) := oa_
         have q229 : x18_1 < (l0_1.length : Int) := oa_
         obtain ⟨ad229, A229_0, c229_0, e229, hx229_0, hx229_1, hl229_0, hi229_0⟩ := at_T47 HR0_1.out x18_1 p229 q229
         cases e229
         replace hx229_0 := hb_ HB hx229_0
         replace hx229_1 := hb_ HB hx229_1
         have HR229_0 := am_ hi229_0
         have HC229_0 := am_ hl229_0
         clear hi229_0 hl229_0
         replace p229 := eq_true p229
         replace q229 := eq_true q229
         have HBo := HB
         replace HB := am_ (Below.refl W1.heap.size W1)
         go_wp2_with (first | ((with_reducible refine gate_dst (N := 5) rfl ?_); refine bx_ 5 #[.slice none 0 0, .int .i64 0] 47 ?_; intro gb230 hg w18 hbox hb; have BK230 := am_ (hbox); have GW230 := gw_ hg; have GE230 := gw_ hg; have NB226_230 := nl_ hg BK226; have NB230_226 := ng_ hg BK226; replace BK226 := bkb_ BK226 hb; replace HB := bs_ hb; clear hb hbox hg; have hnb19 := NB230_226.out; have hnc19 := NB226_230.out; obtain ⟨hcz20_0, hcz20_1, hfz20_0, hfz20_1⟩ := b2_ BK230) | ((with_reducible refine gate_callee (f := 21) rfl ?_); refine gsL_ (some 24) Tryz.func21 #[.int .i64 ((rd_T47 l0_1 x18_1).f1)] ?_; (with_reducible refine (impl_number.calls ((rd_T47 l0_1 x18_1).f1) t231 t232 t233 _ A15.out).mono ?_); rintro e w21 ⟨rfl, hb⟩; refine ⟨_, rfl, ?_⟩; replace BK226 := am_ (blk_below (g := gb226) (o := .cells #[.int .i64 a0_0, .slice (some ad229) l0_1.length c0_1] 26 (0, 0)) (bf2_ NB226_230 (bkx_ BK226.out)) hb); replace BK230 := am_ (blk_below (g := gb230) (o := .cells #[.slice A229_0 ((rd_T47 l0_1 x18_1).f0).length c229_0, .int .i64 ((rd_T47 l0_1 x18_1).f1)] 47 (0, 0)) (bp2_ (bkx_ BK230.out)) hb); replace HB := bs_ hb; (try clear hb); (try clear hb2); (try clear hk); (try clear hi)) | ((with_reducible refine gate_callee (f := 20) rfl ?_); refine gsL_ (some 25) Tryz.func20 #[.agg #[.int .i64 t231, .int .i64 t232, .string t233]] ?_; (with_reducible refine (impl_PutValue.calls k1 t231 t232 t233 t234 _ A16.out).mono ?_); rintro e w22 ⟨rfl, hb⟩; refine ⟨_, rfl, ?_⟩; replace BK226 := bkb_ BK226 hb; replace BK230 := bkb_ BK230 hb; replace HB := bs_ hb; (try clear hb); (try clear hb2); (try clear hk); (try clear hi); have hcz23_0 : w22.cell? ⟨gb230, 0, none⟩ = some (.slice A229_0 ((rd_T47 l0_1 x18_1).f0).length c229_0) := bc_ BK230 0; have hcz23_1 : w22.cell? ⟨gb230, 1, none⟩ = some (.int .i64 ((rd_T47 l0_1 x18_1).f1)) := bc_ BK230 1; have hfz23_0 := blk_frozen BK230.out 0; have hfz23_1 := blk_frozen BK230.out 1) | (go_at_call 18; (refine (Tryz.Builder_WriteString_k gb3 gb3 (Lib.byteCells x3_1.data.toList) t234 _ (isB_below IB.out bb_) ?side1 ?side2).mono ?_); (case side1 => rw [Lib.byteCells_length, Array.length_toList]; exact LMc17.out); (case side2 => exact Nat.le_of_lt (isB_lt (isB_below IB.out bb_))); rintro e w24 ⟨rfl, hi, hb, hk⟩; have nk0 := am_ (isB_keep (isB_below IB.out bb_) hk (bkx_ BK226.out) (by decide) (by decide)); have nk1 := am_ (isB_keep (isB_below IB.out bb_) hk (bkx_ BK230.out) (by decide) (by decide)); have nh := am_ ((below_step HBo.out bb_).trans (hb.mono LW6.out)); have ni := am_ (isB_more hi); clear BK226 BK230 HB IB hi hb hk; have BK226 := nk0; have BK230 := nk1; have HB := nh; have IB := ni; clear nk0 nk1 nh ni; obtain ⟨hcv_0, hcv_1, hfv_0, hfv_1⟩ := b2_ BK230))
         go_loopg [30] k1 (fun kq v30 w' => ∃ (x3_2 : ByteArray) (x30_2 : Int), v30 = .int .i64 x30_2 ∧ Aside0 (impl_PutBag.l1 kq x3_2 l0_1 (l0_1.length : Int) x18_1 ((rd_T47 l0_1 x18_1).f0) (((rd_T47 l0_1 x18_1).f0).length : Int) x30_2 = some r) ∧ Aside0 (kq ≤ k1) ∧ Aside0 (w'.heap[gb226]? = some (.cells #[.int .i64 a0_0, (.slice (some ad229) l0_1.length c0_1)] 26 (0, 0))) ∧ Aside0 (w'.heap[gb230]? = some (.cells #[(.slice A229_0 ((rd_T47 l0_1 x18_1).f0).length c229_0), .int .i64 ((rd_T47 l0_1 x18_1).f1)] 47 (0, 0))) ∧ Aside0 (Lib.IsBuilderF 39 5 gb3 gb3 (Lib.byteCells x3_2.data.toList) w') ∧ Aside0 (Below w.heap.size w w'))
         case atStart => exact ⟨(x3_1 ++ t234), (0), rs_, H', ⟨Nat.le_refl _⟩, ⟨bkx_ BK226.out⟩, ⟨bkx_ BK230.out⟩, IB, ⟨bb_⟩⟩
         case round =>
          clear H'
          try clear c1
          try clear c2
          try clear p2
          try clear q2
          try clear hx2
          try clear c3
          try clear c5
          try clear c5b0
          try clear c5b1
          try clear c5b2
          try clear c8
          try clear c12
          try clear c12b0
          try clear c13
          try clear c13b0
          try clear c14
          try clear c14b0
          try clear c17
          try clear c17b0
          try clear c17b1
          try clear c17b2
          try clear c19
          try clear c21
          try clear c22
          try clear p22
          try clear q22
          try clear hx22
          try clear c23
          try clear hcz11_0
          try clear hcz11_1
          try clear hcz20_0
          try clear hcz20_1
          try clear hcz23_0
          try clear hcz23_1
          try clear hcz7_0
          try clear hcz7_1
          try clear hcz9_0
          try clear hcz9_1
          try clear hfz11_0
          try clear hfz11_1
          try clear hfz20_0
          try clear hfz20_1
          try clear hfz23_0
          try clear hfz23_1
          try clear hfz7_0
          try clear hfz7_1
          try clear hfz9_0
          try clear hfz9_1
          try clear hx229_0
          try clear hx229_1
          try clear p2
          try clear p229
          try clear q229
          try clear hcv_0
          try clear hcv_1
          try clear hfv_0
          try clear hfv_1
          obtain ⟨x3_2, x30_2, rfl, HA, HK2, BK226, BK230, IB, HB⟩ := hrel
          obtain ⟨W2, hW2⟩ : ∃ W2, W2 = wr := ⟨wr, rfl⟩
          subst hW2
          cases gk with
          | zero => exact absurd HA.out (by simp [impl_PutBag.l1])
          | succ k2 =>
           have H := HA.out
           clear HA
           simp only [impl_PutBag.l1] at H
           by_cases c24 : x30_2 < (((rd_T47 l0_1 x18_1).f0).length : Int)
           ·rw [if_pos c24] at H
            have c24b0 := decide_eq_true c24
            clear c24
            by_cases c25 : 0 ≤ x30_2
            ·rw [if_pos c25] at H
             have c25b0 := decide_eq_true c25
             clear c25
             by_cases c26 : x30_2 < (((rd_T47 l0_1 x18_1).f0).length : Int)
             ·rw [if_pos c26] at H
              have c26b0 := decide_eq_true c26
              clear c26
              replace H := bsi_ H
              obtain ⟨t237, A270, H⟩ := H
              try dsimp only at H
              have A27 := am_ A270
              clear A270
              by_cases c28 : x3_2.size + t237.size ≤ 140737488355328
              ·rw [if_pos c28] at H
               have LMc28 := am_ c28
               have c28b0 := eq_true c28
               have c28b1 := decide_eq_true c28
               try have c28b2 : (9223372036854775807 < x3_2.size + t237.size) = False := eq_false (Nat.not_lt.2 c28)
               have H' := am_ H
               clear H
               have p235 : 0 ≤ (x30_2 : Int) := oa_
               have q235 : x30_2 < (((rd_T47 l0_1 x18_1).f0).length : Int) := oa_
               obtain ⟨ad235, e235, hx235_0, hx235_1, hx235_2⟩ := at_T50 HR229_0.out x30_2 p235 q235
               cases e235
               replace hx235_0 := hb_ HB hx235_0
               replace hx235_1 := hb_ HB hx235_1
               replace hx235_2 := hb_ HB hx235_2
               replace p235 := eq_true p235
               replace q235 := eq_true q235
               have HBp := HB
               replace HB := am_ (Below.refl W2.heap.size W2)
               go_wp2_with (first | ((with_reducible refine gate_dst (N := 7) rfl ?_); refine bx_ 7 #[.int .i64 0, .int .i64 0, .string (⟨#[]⟩ : ByteArray)] 50 ?_; intro gb236 hg w29 hbox hb; have BK236 := am_ (hbox); have GW236 := gw_ hg; have GE236 := gw_ hg; have NB226_236 := nl_ hg BK226; have NB236_226 := ng_ hg BK226; have NB230_236 := nl_ hg BK230; have NB236_230 := ng_ hg BK230; replace BK226 := bkb_ BK226 hb; replace BK230 := bkb_ BK230 hb; replace HB := bs_ hb; clear hb hbox hg; have hnb30 := NB236_226.out; have hnc30 := NB226_236.out; have hnb31 := NB236_230.out; have hnc31 := NB230_236.out; obtain ⟨hcz32_0, hcz32_1, hcz32_2, hfz32_0, hfz32_1, hfz32_2⟩ := b3_ BK236) | ((with_reducible refine gate_callee (f := 20) rfl ?_); refine gsL_ (some 35) Tryz.func20 #[.agg #[.int .i64 ((rd_T50 ((rd_T47 l0_1 x18_1).f0) x30_2).f0), .int .i64 ((rd_T50 ((rd_T47 l0_1 x18_1).f0) x30_2).f1), .string ((rd_T50 ((rd_T47 l0_1 x18_1).f0) x30_2).f2)]] ?_; (with_reducible refine (impl_PutValue.calls k2 ((rd_T50 ((rd_T47 l0_1 x18_1).f0) x30_2).f0) ((rd_T50 ((rd_T47 l0_1 x18_1).f0) x30_2).f1) ((rd_T50 ((rd_T47 l0_1 x18_1).f0) x30_2).f2) t237 _ A27.out).mono ?_); rintro e w33 ⟨rfl, hb⟩; refine ⟨_, rfl, ?_⟩; replace BK226 := am_ (blk_below (g := gb226) (o := .cells #[.int .i64 a0_0, .slice (some ad229) l0_1.length c0_1] 26 (0, 0)) (bf3_ NB226_236 (bkx_ BK226.out)) hb); replace BK230 := am_ (blk_below (g := gb230) (o := .cells #[.slice (some ad235) ((rd_T47 l0_1 x18_1).f0).length c229_0, .int .i64 ((rd_T47 l0_1 x18_1).f1)] 47 (0, 0)) (bf3_ NB230_236 (bkx_ BK230.out)) hb); replace BK236 := am_ (blk_below (g := gb236) (o := .cells #[.int .i64 ((rd_T50 ((rd_T47 l0_1 x18_1).f0) x30_2).f0), .int .i64 ((rd_T50 ((rd_T47 l0_1 x18_1).f0) x30_2).f1), .string ((rd_T50 ((rd_T47 l0_1 x18_1).f0) x30_2).f2)] 50 (0, 0)) (bp3_ (bkx_ BK236.out)) hb); replace HB := bs_ hb; (try clear hb); (try clear hb2); (try clear hk); (try clear hi)) | (go_at_call 18; (refine (Tryz.Builder_WriteString_k gb3 gb3 (Lib.byteCells x3_2.data.toList) t237 _ (isB_below IB.out bb_) ?side1 ?side2).mono ?_); (case side1 => rw [Lib.byteCells_length, Array.length_toList]; exact LMc28.out); (case side2 => exact Nat.le_of_lt (isB_lt (isB_below IB.out bb_))); rintro e w38 ⟨rfl, hi, hb, hk⟩; have nk0 := am_ (isB_keep (isB_below IB.out bb_) hk (bkx_ BK226.out) (by decide) (by decide)); have nk1 := am_ (isB_keep (isB_below IB.out bb_) hk (bkx_ BK230.out) (by decide) (by decide)); have nh := am_ ((below_step HBp.out bb_).trans (hb.mono LW6.out)); have ni := am_ (isB_more hi); clear BK226 BK230 HB IB hi hb hk; have BK226 := nk0; have BK230 := nk1; have HB := nh; have IB := ni; clear nk0 nk1 nh ni))
               go_roundg k2
               case measure => have := HK1.out; have := HK2.out; omega
               case rel => exact ⟨(x3_2 ++ t237), (wrap64 (x30_2 + 1)), rs_, H', ⟨by have := HK1.out; have := HK2.out; omega⟩, ⟨bkx_ BK226.out⟩, ⟨bkx_ BK230.out⟩, IB, ⟨bb_⟩⟩
              ·rw [if_neg c28] at H
               exact nn_ H
             ·rw [if_neg c26] at H
              exact nn_ H
            ·rw [if_neg c25] at H
             exact nn_ H
           ·rw [if_neg c24] at H
            have c24b0 := decide_eq_false c24
            clear c24
            have H' := am_ H
            clear H
            go_wp2
            go_roundg k2
            case measure => have := HK1.out; have := HK2.out; omega
            case rel => exact ⟨(x3_2), (wrap64 (x18_1 + 1)), rs_, H', ⟨by have := HK1.out; have := HK2.out; omega⟩, ⟨bkx_ BK226.out⟩, IB, ⟨bb_⟩⟩
        ·rw [if_neg c17] at H
         exact nn_ H
       ·rw [if_neg c14] at H
        exact nn_ H
      ·rw [if_neg c13] at H
       exact nn_ H
     ·rw [if_neg c12] at H
      have c12b0 := decide_eq_false c12
      clear c12
      obtain rfl := Option.some.inj H
      go_wp2_with (first | (go_at_call 22; (refine (Tryz.Builder_String_any_f gb3 gb3 x3_1.data.toList _ IB.out (Nat.le_of_lt (isB_lt IB.out))).mono ?_); rintro e w43 ⟨rfl, _, hb⟩; replace HB := am_ (HB.out.trans (hb.mono LW6.out)); clear hb))
      go_ret
      exact ⟨by cases x3_1; rfl, bb_⟩
  ·rw [if_neg c5] at H
   exact nn_ H
 ·replace c3 := Bool.eq_false_iff.mpr c3
  subst c3
  rw [if_neg (show ¬ (false = true) by decide)] at H
  obtain rfl := Option.some.inj H
  go_enter Tryz.func6, Tryz.ntmps6
  go_wp2_with (first | ((with_reducible refine gate_dst (N := 1) rfl ?_); refine bx_ 1 #[.int .i64 a0_0, .slice A0_1 l0_1.length c0_1] 26 ?_; intro gb226 hg w34 hbox hb; have BK226 := am_ (hbox); have GW226 := gw_ hg; have GE226 := gw_ hg; replace HB := bs_ hb; clear hb hbox hg; obtain ⟨hcz35_0, hcz35_1, hfz35_0, hfz35_1⟩ := b2_ BK226) | ((with_reducible refine gate_callee (f := 17) rfl ?_); refine gsL_ (some 9) Tryz.func17 #[.agg #[.int .i64 a0_0, .slice A0_1 l0_1.length c0_1]] ?_; (with_reducible refine (impl_BagOk.calls k a0_0 _ _ l0_1 false _ ?side1 ?side2 A2.out).mono ?_); (case side1 => exact ck_ (Kd.C_below HR0_1.out HB.out)); (case side2 => exact HC0_1.out); rintro e w36 ⟨rfl, hb⟩; refine ⟨_, rfl, ?_⟩; replace BK226 := bkb_ BK226 hb; replace HB := bs_ hb; (try clear hb); (try clear hb2); (try clear hk); (try clear hi)))
  go_ret
  exact ⟨er_, bb_⟩

/-! ### spec_l01In: function 37 -/
def spec_l01In.f (a0 : Int) (a1 : Int) (a2 : Int) : Option (Bool) := if a0 ≥ a1 then (some (decide (a0 ≤ a2))) else (some false)
set_option maxHeartbeats 8000000 in
set_option maxRecDepth 100000 in
theorem spec_l01In.calls (a0 : Int) (a1 : Int) (a2 : Int) (r : Bool) (w : World) (h : spec_l01In.f a0 a1 a2 = some r) :
  Calls Tryz.prog 37 #[.int .i64 a0, .int .i64 a1, .int .i64 a2] w fun e w' => e = .returned (.bool r) ∧ Drawn0 w w' := by
 have H : (if a0 ≥ a1 then (some (decide (a0 ≤ a2))) else (some false)) = some r := h
 clear h
 by_cases c4 : a0 ≥ a1
 ·rw [if_pos c4] at H
  have c4b0 := decide_eq_true c4; clear c4; obtain rfl := Option.some.inj H
  go_enter Tryz.func37, Tryz.ntmps37
  go_wp2
  go_ret
  (exact ⟨by first | rfl | (simp; done) | (simp [*]; done), by repeat (first | exact Drawn0.refl _ | apply Drawn0.step)⟩)
 ·rw [if_neg c4] at H
  have c4b0 := decide_eq_false c4; clear c4; obtain rfl := Option.some.inj H
  go_enter Tryz.func37, Tryz.ntmps37
  go_wp2
  go_ret
  (exact ⟨by first | rfl | (simp; done) | (simp [*]; done), by repeat (first | exact Drawn0.refl _ | apply Drawn0.step)⟩)

/-! ### spec_ValueOk: function 50 -/
def spec_ValueOk.f (a0_0 : Int) (a0_1 : Int) (a0_2 : ByteArray) : Option (Bool) := if a0_0 = 0 then (if a0_1 = 0 then (some (a0_2.toList == ([] : List UInt8))) else (some false)) else (if a0_0 = 1 then (some (a0_2.toList == ([] : List UInt8))) else (if a0_0 = 2 then ((spec_l01In.f a0_1 0 1).bind fun t305 => (if t305 = true then (some (a0_2.toList == ([] : List UInt8))) else (some false))) else (if a0_0 = 3 then (if a0_1 = 0 then (some (decide ((a0_2.size : Int) ≤ 100))) else (some false)) else (some false))))
set_option maxHeartbeats 8000000 in
set_option maxRecDepth 100000 in
theorem spec_ValueOk.calls (a0_0 : Int) (a0_1 : Int) (a0_2 : ByteArray) (r : Bool) (w : World) (h : spec_ValueOk.f a0_0 a0_1 a0_2 = some r) :
  Calls Tryz.prog 50 #[.agg #[.int .i64 a0_0, .int .i64 a0_1, .string a0_2]] w fun e w' => e = .returned (.bool r) ∧ Below w.heap.size w w' := by
 have hu50 := Tryz.underlying50
 have HB := am_ (Below.refl w.heap.size w)
 have H : (if a0_0 = 0 then (if a0_1 = 0 then (some (a0_2.toList == ([] : List UInt8))) else (some false)) else (if a0_0 = 1 then (some (a0_2.toList == ([] : List UInt8))) else (if a0_0 = 2 then ((spec_l01In.f a0_1 0 1).bind fun t305 => (if t305 = true then (some (a0_2.toList == ([] : List UInt8))) else (some false))) else (if a0_0 = 3 then (if a0_1 = 0 then (some (decide ((a0_2.size : Int) ≤ 100))) else (some false)) else (some false))))) = some r := h
 clear h
 by_cases c2 : a0_0 = 0
 ·rw [if_pos c2] at H
  have c2b0 : (a0_0 == 0) = true := beq_iff_eq.mpr c2; have c2b1 : (a0_0 != 0) = false := bne_eq_false_iff_eq.mpr c2; clear c2
  by_cases c3 : a0_1 = 0
  ·rw [if_pos c3] at H
   have c3b0 : (a0_1 == 0) = true := beq_iff_eq.mpr c3; have c3b1 : (a0_1 != 0) = false := bne_eq_false_iff_eq.mpr c3; clear c3; obtain rfl := Option.some.inj H
   go_enter Tryz.func50, Tryz.ntmps50
   go_wp2_with (first | ((with_reducible refine gate_dst (N := 1) rfl ?_); (try (refine gate_guard (by rfl) ?_; dsimp only)); refine bx_ 1 #[.int .i64 a0_0, .int .i64 a0_1, .string a0_2] 50 ?_; intro gb304 hg w4 hbox hb; have BK304 := am_ (hbox); have GW304 := gw_ hg; have GE304 := gw_ hg; replace HB := bs_ hb; clear hb hbox hg; obtain ⟨hcz5_0, hcz5_1, hcz5_2, hfz5_0, hfz5_1, hfz5_2⟩ := b3_ BK304))
   go_ret
   exact ⟨er_, bb_⟩
  ·rw [if_neg c3] at H
   have c3b0 : (a0_1 == 0) = false := beq_eq_false_iff_ne.mpr c3; have c3b1 : (a0_1 != 0) = true := bne_iff_ne.mpr c3; obtain rfl := Option.some.inj H
   go_enter Tryz.func50, Tryz.ntmps50
   go_wp2_with (first | ((with_reducible refine gate_dst (N := 1) rfl ?_); (try (refine gate_guard (by rfl) ?_; dsimp only)); refine bx_ 1 #[.int .i64 a0_0, .int .i64 a0_1, .string a0_2] 50 ?_; intro gb304 hg w6 hbox hb; have BK304 := am_ (hbox); have GW304 := gw_ hg; have GE304 := gw_ hg; replace HB := bs_ hb; clear hb hbox hg; obtain ⟨hcz7_0, hcz7_1, hcz7_2, hfz7_0, hfz7_1, hfz7_2⟩ := b3_ BK304))
   go_ret
   exact ⟨er_, bb_⟩
 ·rw [if_neg c2] at H
  have c2b0 : (a0_0 == 0) = false := beq_eq_false_iff_ne.mpr c2; have c2b1 : (a0_0 != 0) = true := bne_iff_ne.mpr c2
  by_cases c8 : a0_0 = 1
  ·rw [if_pos c8] at H
   have c8b0 : (a0_0 == 1) = true := beq_iff_eq.mpr c8; have c8b1 : (a0_0 != 1) = false := bne_eq_false_iff_eq.mpr c8; clear c8; obtain rfl := Option.some.inj H
   go_enter Tryz.func50, Tryz.ntmps50
   go_wp2_with (first | ((with_reducible refine gate_dst (N := 1) rfl ?_); (try (refine gate_guard (by rfl) ?_; dsimp only)); refine bx_ 1 #[.int .i64 a0_0, .int .i64 a0_1, .string a0_2] 50 ?_; intro gb304 hg w9 hbox hb; have BK304 := am_ (hbox); have GW304 := gw_ hg; have GE304 := gw_ hg; replace HB := bs_ hb; clear hb hbox hg; obtain ⟨hcz10_0, hcz10_1, hcz10_2, hfz10_0, hfz10_1, hfz10_2⟩ := b3_ BK304))
   go_ret
   exact ⟨er_, bb_⟩
  ·rw [if_neg c8] at H
   have c8b0 : (a0_0 == 1) = false := beq_eq_false_iff_ne.mpr c8; have c8b1 : (a0_0 != 1) = true := bne_iff_ne.mpr c8
   by_cases c11 : a0_0 = 2
   ·rw [if_pos c11] at H
    have c11b0 : (a0_0 == 2) = true := beq_iff_eq.mpr c11; have c11b1 : (a0_0 != 2) = false := bne_eq_false_iff_eq.mpr c11; clear c11; replace H := bsi_ H; obtain ⟨t305, A120, H⟩ := H
    try dsimp only at H
    have A12 := am_ A120; clear A120
    by_cases c13 : t305 = true
    ·subst c13
     rw [if_pos rfl] at H; obtain rfl := Option.some.inj H
     go_enter Tryz.func50, Tryz.ntmps50
     go_wp2_with (first | ((with_reducible refine gate_dst (N := 1) rfl ?_); (try (refine gate_guard (by rfl) ?_; dsimp only)); refine bx_ 1 #[.int .i64 a0_0, .int .i64 a0_1, .string a0_2] 50 ?_; intro gb304 hg w14 hbox hb; have BK304 := am_ (hbox); have GW304 := gw_ hg; have GE304 := gw_ hg; replace HB := bs_ hb; clear hb hbox hg; obtain ⟨hcz15_0, hcz15_1, hcz15_2, hfz15_0, hfz15_1, hfz15_2⟩ := b3_ BK304) | ((with_reducible refine gate_callee (f := 37) rfl ?_); refine gsL_ (some 24) Tryz.func37 #[.int .i64 a0_1, .int .i64 0, .int .i64 1] ?_; (with_reducible refine (spec_l01In.calls a0_1 0 1 true _ A12.out).mono ?_); rintro e w' ⟨rfl, ⟨nd, rfl⟩⟩; refine ⟨_, rfl, ?_⟩))
     go_ret
     exact ⟨er_, bb_⟩
    ·replace c13 := Bool.eq_false_iff.mpr c13
     subst c13; (rw [if_neg (show ¬ (false = true) by decide)] at H); obtain rfl := Option.some.inj H
     go_enter Tryz.func50, Tryz.ntmps50
     go_wp2_with (first | ((with_reducible refine gate_dst (N := 1) rfl ?_); (try (refine gate_guard (by rfl) ?_; dsimp only)); refine bx_ 1 #[.int .i64 a0_0, .int .i64 a0_1, .string a0_2] 50 ?_; intro gb304 hg w16 hbox hb; have BK304 := am_ (hbox); have GW304 := gw_ hg; have GE304 := gw_ hg; replace HB := bs_ hb; clear hb hbox hg; obtain ⟨hcz17_0, hcz17_1, hcz17_2, hfz17_0, hfz17_1, hfz17_2⟩ := b3_ BK304) | ((with_reducible refine gate_callee (f := 37) rfl ?_); refine gsL_ (some 24) Tryz.func37 #[.int .i64 a0_1, .int .i64 0, .int .i64 1] ?_; (with_reducible refine (spec_l01In.calls a0_1 0 1 false _ A12.out).mono ?_); rintro e w' ⟨rfl, ⟨nd, rfl⟩⟩; refine ⟨_, rfl, ?_⟩))
     go_ret
     exact ⟨er_, bb_⟩
   ·rw [if_neg c11] at H
    have c11b0 : (a0_0 == 2) = false := beq_eq_false_iff_ne.mpr c11; have c11b1 : (a0_0 != 2) = true := bne_iff_ne.mpr c11
    by_cases c18 : a0_0 = 3
    ·rw [if_pos c18] at H
     have c18b0 : (a0_0 == 3) = true := beq_iff_eq.mpr c18; have c18b1 : (a0_0 != 3) = false := bne_eq_false_iff_eq.mpr c18; clear c18
     by_cases c19 : a0_1 = 0
     ·rw [if_pos c19] at H
      have c19b0 : (a0_1 == 0) = true := beq_iff_eq.mpr c19; have c19b1 : (a0_1 != 0) = false := bne_eq_false_iff_eq.mpr c19; clear c19; obtain rfl := Option.some.inj H
      go_enter Tryz.func50, Tryz.ntmps50
      go_wp2_with (first | ((with_reducible refine gate_dst (N := 1) rfl ?_); (try (refine gate_guard (by rfl) ?_; dsimp only)); refine bx_ 1 #[.int .i64 a0_0, .int .i64 a0_1, .string a0_2] 50 ?_; intro gb304 hg w20 hbox hb; have BK304 := am_ (hbox); have GW304 := gw_ hg; have GE304 := gw_ hg; replace HB := bs_ hb; clear hb hbox hg; obtain ⟨hcz21_0, hcz21_1, hcz21_2, hfz21_0, hfz21_1, hfz21_2⟩ := b3_ BK304))
      go_ret
      exact ⟨er_, bb_⟩
     ·rw [if_neg c19] at H
      have c19b0 : (a0_1 == 0) = false := beq_eq_false_iff_ne.mpr c19; have c19b1 : (a0_1 != 0) = true := bne_iff_ne.mpr c19; obtain rfl := Option.some.inj H
      go_enter Tryz.func50, Tryz.ntmps50
      go_wp2_with (first | ((with_reducible refine gate_dst (N := 1) rfl ?_); (try (refine gate_guard (by rfl) ?_; dsimp only)); refine bx_ 1 #[.int .i64 a0_0, .int .i64 a0_1, .string a0_2] 50 ?_; intro gb304 hg w22 hbox hb; have BK304 := am_ (hbox); have GW304 := gw_ hg; have GE304 := gw_ hg; replace HB := bs_ hb; clear hb hbox hg; obtain ⟨hcz23_0, hcz23_1, hcz23_2, hfz23_0, hfz23_1, hfz23_2⟩ := b3_ BK304))
      go_ret
      exact ⟨er_, bb_⟩
    ·rw [if_neg c18] at H
     have c18b0 : (a0_0 == 3) = false := beq_eq_false_iff_ne.mpr c18; have c18b1 : (a0_0 != 3) = true := bne_iff_ne.mpr c18; obtain rfl := Option.some.inj H
     go_enter Tryz.func50, Tryz.ntmps50
     go_wp2_with (first | ((with_reducible refine gate_dst (N := 1) rfl ?_); (try (refine gate_guard (by rfl) ?_; dsimp only)); refine bx_ 1 #[.int .i64 a0_0, .int .i64 a0_1, .string a0_2] 50 ?_; intro gb304 hg w24 hbox hb; have BK304 := am_ (hbox); have GW304 := gw_ hg; have GE304 := gw_ hg; replace HB := bs_ hb; clear hb hbox hg; obtain ⟨hcz25_0, hcz25_1, hcz25_2, hfz25_0, hfz25_1, hfz25_2⟩ := b3_ BK304))
     go_ret
     exact ⟨er_, bb_⟩
/-! ### spec_l02Row: function 36 -/
def spec_l02Row.l0 : Nat → List (S50) → Int → Int → Option (Bool)
 | 0, _, _, _ => none
 | k + 1, x0, x1, x5 => if x5 < (x0.length : Int) then (if 0 ≤ x5 then ((spec_ValueOk.f ((rd_T50 x0 x5).f0) ((rd_T50 x0 x5).f1) ((rd_T50 x0 x5).f2)).bind fun t307 => (if t307 = true then (spec_l02Row.l0 k x0 x1 (wrap64 (x5 + 1))) else (some false))) else (none)) else (some ((x0.length : Int) == x1))
def spec_l02Row.f (k : Nat) (l0 : List (S50)) (a1 : Int) : Option (Bool) := spec_l02Row.l0 k l0 a1 0
set_option maxHeartbeats 8000000 in
set_option maxRecDepth 100000 in
theorem spec_l02Row.calls (k : Nat) (A0 : Option Addr) (c0 : Nat) (l0 : List (S50)) (a1 : Int) (r : Bool) (w : World) (hr0 : Kd.C k50 w A0 l0.length l0) (hc0 : l0.length ≤ c0) (h : spec_l02Row.f k l0 a1 = some r) :
  Calls Tryz.prog 36 #[.slice A0 l0.length c0, .int .i64 a1] w fun e w' => e = .returned (.bool r) ∧ Below w.heap.size w w' := by
 have hu50 := Tryz.underlying50
 have HR0 := am_ hr0
 have HC0 := am_ hc0
 clear hr0 hc0
 have HB := am_ (Below.refl w.heap.size w)
 have H : (spec_l02Row.l0 k l0 a1 0) = some r := h
 clear h
 have H' := am_ H
 clear H
 go_enter Tryz.func36, Tryz.ntmps36
 go_wp2
 go_loopg [5] k (fun kq v5 w' => ∃ (x5_1 : Int), v5 = .int .i64 x5_1 ∧ Aside0 (spec_l02Row.l0 kq l0 a1 x5_1 = some r) ∧ Aside0 (kq ≤ k) ∧ Aside0 (Below w.heap.size w w'))
 case atStart => exact ⟨(0), rs_, H', ⟨Nat.le_refl _⟩, ⟨bb_⟩⟩
 case round =>
  clear H'; (try clear p2); obtain ⟨x5_1, rfl, HA, HK1, HB⟩ := hrel
  cases gk with
  | zero => exact absurd HA.out (by simp [spec_l02Row.l0])
  | succ k1 =>
   have H := HA.out; clear HA; simp only [spec_l02Row.l0] at H
   by_cases c3 : x5_1 < (l0.length : Int)
   ·rw [if_pos c3] at H
    have c3b0 := decide_eq_true c3; clear c3
    by_cases c4 : 0 ≤ x5_1
    ·rw [if_pos c4] at H
     have c4b0 := decide_eq_true c4; clear c4; replace H := bsi_ H; obtain ⟨t307, A50, H⟩ := H
     try dsimp only at H
     have A5 := am_ A50; clear A50
     by_cases c6 : t307 = true
     ·subst c6
      rw [if_pos rfl] at H; have H' := am_ H; clear H; (have p306 : 0 ≤ (x5_1 : Int) := oa_); (have q306 : x5_1 < (l0.length : Int) := oa_); obtain ⟨ad306, e306, hx306_0, hx306_1, hx306_2⟩ := at_T50 HR0.out x5_1 p306 q306; cases e306; replace hx306_0 := hb_ HB hx306_0; replace hx306_1 := hb_ HB hx306_1; replace hx306_2 := hb_ HB hx306_2; replace p306 := eq_true p306; replace q306 := eq_true q306
      go_wp2_with (first | ((with_reducible refine gate_callee (f := 50) rfl ?_); refine gsL_ (some 16) Tryz.func50 #[.agg #[.int .i64 ((rd_T50 l0 x5_1).f0), .int .i64 ((rd_T50 l0 x5_1).f1), .string ((rd_T50 l0 x5_1).f2)]] ?_; (with_reducible refine (spec_ValueOk.calls ((rd_T50 l0 x5_1).f0) ((rd_T50 l0 x5_1).f1) ((rd_T50 l0 x5_1).f2) true _ A5.out).mono ?_); rintro e w7 ⟨rfl, hb⟩; refine ⟨_, rfl, ?_⟩; replace HB := bs_ hb; (try clear hb)))
      go_roundg k1
      case measure => have := HK1.out; omega
      case rel => exact ⟨(wrap64 (x5_1 + 1)), rs_, H', ⟨by have := HK1.out; omega⟩, ⟨bb_⟩⟩
     ·replace c6 := Bool.eq_false_iff.mpr c6
      subst c6; (rw [if_neg (show ¬ (false = true) by decide)] at H); obtain rfl := Option.some.inj H; (have p306 : 0 ≤ (x5_1 : Int) := oa_); (have q306 : x5_1 < (l0.length : Int) := oa_); obtain ⟨ad306, e306, hx306_0, hx306_1, hx306_2⟩ := at_T50 HR0.out x5_1 p306 q306; cases e306; replace hx306_0 := hb_ HB hx306_0; replace hx306_1 := hb_ HB hx306_1; replace hx306_2 := hb_ HB hx306_2; replace p306 := eq_true p306; replace q306 := eq_true q306
      go_wp2_with (first | ((with_reducible refine gate_callee (f := 50) rfl ?_); refine gsL_ (some 16) Tryz.func50 #[.agg #[.int .i64 ((rd_T50 l0 x5_1).f0), .int .i64 ((rd_T50 l0 x5_1).f1), .string ((rd_T50 l0 x5_1).f2)]] ?_; (with_reducible refine (spec_ValueOk.calls ((rd_T50 l0 x5_1).f0) ((rd_T50 l0 x5_1).f1) ((rd_T50 l0 x5_1).f2) false _ A5.out).mono ?_); rintro e w8 ⟨rfl, hb⟩; refine ⟨_, rfl, ?_⟩; replace HB := bs_ hb; (try clear hb)))
      go_ret
      exact ⟨er_, bb_⟩
    ·rw [if_neg c4] at H
     exact nn_ H
   ·rw [if_neg c3] at H
    have c3b0 := decide_eq_false c3; clear c3; obtain rfl := Option.some.inj H
    go_wp2
    go_ret
    exact ⟨er_, bb_⟩
/-! ### spec_BagOk: function 14 -/
def spec_BagOk.l0 : Nat → Int → Int → List (S47) → Option (Bool)
 | 0, _, _, _ => none
 | k + 1, x3, x309000, x309001 => if x3 < (x309001.length : Int) then (if 0 ≤ x3 then ((spec_l02Row.f k ((rd_T47 x309001 x3).f0) x309000).bind fun t312 => (if t312 = true then (if ((rd_T47 x309001 x3).f1) = 0 then (some false) else ((spec_l01In.f ((rd_T47 x309001 x3).f1) (-1000000000) 1000000000).bind fun t313 => (if t313 = true then (if x3 > 0 then (if 0 ≤ (wrap64 (x3 - 1)) then (if (wrap64 (x3 - 1)) < (x309001.length : Int) then ((spec_CompareRow.f k ((rd_T47 x309001 (wrap64 (x3 - 1))).f0) ((rd_T47 x309001 x3).f0)).bind fun t315 => (if t315 ≥ 0 then (some false) else (spec_BagOk.l0 k (wrap64 (x3 + 1)) x309000 x309001))) else (none)) else (none)) else (spec_BagOk.l0 k (wrap64 (x3 + 1)) x309000 x309001)) else (some false)))) else (some false))) else (none)) else ((spec_l01In.f x309000 0 12).bind fun t309 => (if t309 = true then (some (decide ((x309001.length : Int) ≤ 400))) else (some false)))
def spec_BagOk.f (k : Nat) (a0_0 : Int) (l0_1 : List (S47)) : Option (Bool) := spec_BagOk.l0 k 0 a0_0 l0_1
def spec_BagOk.T5 : Bool × List (List Nat × List Nat) := (true, [([], []), ([0], [0]), ([], []), ([2], [2]), ([1, 3], [1, 3]), ([4], [4]), ([5, 4], [5]), ([6], [6]), ([7, 6], [6, 7]), ([8, 6], [6, 8]), ([6, 9], [6, 9]), ([10, 6], [10]), ([11], [11]), ([12, 11], [11, 12]), ([13, 11, 11], [11, 13]), ([14, 11], [11, 14]), ([11, 15], [11, 15]), ([16, 14], [16]), ([17], [17]), ([18, 17], [17, 18]), ([19, 17, 17], [17, 19]), ([20], [20]), ([21, 20], [20, 21]), ([20], [20]), ([23, 20], [20, 23]), ([22, 24, 20], [20, 22, 24]), ([25, 20], [20, 25]), ([26, 20], [20, 26]), ([20], [20]), ([28, 20], [20, 28]), ([27, 29, 20, 20], [20, 27, 29]), ([30, 20], [20, 30]), ([20, 31, 17], [17, 20, 31]), ([17, 32], [17, 32])])
def spec_BagOk.B5 : List Nat := [0, 1, 0, 4, 15, 31, 63, 127, 255, 511, 1023, 2047, 4095, 8191, 16383, 32767, 65535, 131071, 262143, 524287, 1048575, 2097151, 4194303, 2097151, 10485759, 33554431, 67108863, 134217727, 2097151, 270532607, 1073741823, 2147483647, 4294967295, 8589934591]
theorem spec_BagOk.tab5 : rtab .any (opsOf Tryz.f14 5) = spec_BagOk.T5 := by kernel_rfl
theorem spec_BagOk.bits5 : waitsOk spec_BagOk.T5.2 spec_BagOk.B5 = true := by kernel_rfl
set_option maxHeartbeats 8000000 in
set_option maxRecDepth 100000 in
theorem spec_BagOk.calls (k : Nat) (a0_0 : Int) (A0_1 : Option Addr) (c0_1 : Nat) (l0_1 : List (S47)) (r : Bool) (w : World) (hr0_1 : Kd.C k47 w A0_1 l0_1.length l0_1) (hc0_1 : l0_1.length ≤ c0_1) (h : spec_BagOk.f k a0_0 l0_1 = some r) :
  Calls Tryz.prog 14 #[.agg #[.int .i64 a0_0, .slice A0_1 l0_1.length c0_1]] w fun e w' => e = .returned (.bool r) ∧ Below w.heap.size w w' := by
 have hu26 := Tryz.underlying26
 have hu47 := Tryz.underlying47
 have HR0_1 := am_ hr0_1
 have HC0_1 := am_ hc0_1
 clear hr0_1 hc0_1
 have HB := am_ (Below.refl w.heap.size w)
 have H : (spec_BagOk.l0 k 0 a0_0 l0_1) = some r := h
 clear h
 have H' := am_ H
 clear H
 go_enter Tryz.func14, Tryz.ntmps14
 go_wp2_with (first | ((with_reducible refine gate_dst (N := 1) rfl ?_); (try (refine gate_guard (by rfl) ?_; dsimp only)); refine bx_ 1 #[.int .i64 a0_0, .slice A0_1 l0_1.length c0_1] 26 ?_; intro gb308 hg w2 hbox hb; have BK308 := am_ (hbox); have GW308 := gw_ hg; have GE308 := gw_ hg; replace HB := bs_ hb; clear hb hbox hg))
 go_loopg [3] k (fun kq v3 w' => ∃ (x3_1 : Int), v3 = .int .i64 x3_1 ∧ Aside0 (spec_BagOk.l0 kq x3_1 a0_0 l0_1 = some r) ∧ Aside0 (kq ≤ k) ∧ Aside0 (w'.heap[gb308]? = some (.cells #[.int .i64 a0_0, (.slice A0_1 l0_1.length c0_1)] 26 (0, 0))) ∧ Aside0 (Below w.heap.size w w'))
 case atStart => exact ⟨(0), rs_, H', ⟨Nat.le_refl _⟩, ⟨bkx_ BK308.out⟩, ⟨bb_⟩⟩
 case round =>
  clear H'; (try clear c1); (try clear p2); obtain ⟨x3_1, rfl, HA, HK1, BK308, HB⟩ := hrel
  cases gk with
  | zero => exact absurd HA.out (by simp [spec_BagOk.l0])
  | succ k1 =>
   have H := HA.out; clear HA; simp only [spec_BagOk.l0] at H
   by_cases c3 : x3_1 < (l0_1.length : Int)
   ·rw [if_pos c3] at H
    have c3b0 := decide_eq_true c3; clear c3
    by_cases c4 : 0 ≤ x3_1
    ·rw [if_pos c4] at H
     have c4b0 := decide_eq_true c4; clear c4; replace H := bsi_ H; obtain ⟨t312, A50, H⟩ := H
     try dsimp only at H
     have A5 := am_ A50; clear A50
     by_cases c6 : t312 = true
     ·subst c6
      rw [if_pos rfl] at H
      by_cases c7 : ((rd_T47 l0_1 x3_1).f1) = 0
      ·rw [if_pos c7] at H
       have c7b0 : (((rd_T47 l0_1 x3_1).f1) == 0) = true := beq_iff_eq.mpr c7; have c7b1 : (((rd_T47 l0_1 x3_1).f1) != 0) = false := bne_eq_false_iff_eq.mpr c7; clear c7; obtain rfl := Option.some.inj H; obtain ⟨hcz8_0, hcz8_1, hfz8_0, hfz8_1⟩ := b2_ BK308; (have p310 : 0 ≤ (x3_1 : Int) := oa_); (have q310 : x3_1 < (l0_1.length : Int) := oa_); obtain ⟨ad310, A310_0, c310_0, e310, hx310_0, hx310_1, hl310_0, hi310_0⟩ := at_T47 HR0_1.out x3_1 p310 q310; cases e310; replace hx310_0 := hb_ HB hx310_0; replace hx310_1 := hb_ HB hx310_1; have HR310_0 := am_ hi310_0; have HC310_0 := am_ hl310_0; clear hi310_0 hl310_0; replace p310 := eq_true p310; replace q310 := eq_true q310
       try go_wp2_with (first | ((with_reducible refine gate_dst (N := 4) rfl ?_); (try (refine gate_guard (by rfl) ?_; dsimp only)); refine bx_ 4 #[.slice none 0 0, .int .i64 0] 47 ?_; intro gb311 hg w9 hbox hb; have BK311 := am_ (hbox); have GW311 := gw_ hg; have GE311 := gw_ hg; have NB308_311 := nl_ hg BK308; have NB311_308 := ng_ hg BK308; replace BK308 := bkb_ BK308 hb; replace HB := bs_ hb; clear hb hbox hg; have hnb10 := NB311_308.out; have hnc10 := NB308_311.out; obtain ⟨hcz11_0, hcz11_1, hfz11_0, hfz11_1⟩ := b2_ BK311))
       have n0_ : Aside0 (((w9.setCell ⟨gb311, 0, none⟩ (.slice A310_0 ((rd_T47 l0_1 x3_1).f0).length c310_0)).setCell ⟨gb311, 1, none⟩ (.int .i64 ((rd_T47 l0_1 x3_1).f1))).heap[gb308]? = some (.cells #[.int .i64 a0_0, .slice (some ad310) l0_1.length c0_1] 26 (0, 0))) := ⟨(bf2_ NB308_311 (bkx_ BK308.out))⟩; have n1_ : Aside0 (((w9.setCell ⟨gb311, 0, none⟩ (.slice A310_0 ((rd_T47 l0_1 x3_1).f0).length c310_0)).setCell ⟨gb311, 1, none⟩ (.int .i64 ((rd_T47 l0_1 x3_1).f1))).heap[gb311]? = some (.cells #[.slice A310_0 ((rd_T47 l0_1 x3_1).f0).length c310_0, .int .i64 ((rd_T47 l0_1 x3_1).f1)] 47 (0, 0))) := ⟨(bp2_ (bkx_ BK311.out))⟩; have n2_ : Aside0 (Below w.heap.size w ((w9.setCell ⟨gb311, 0, none⟩ (.slice A310_0 ((rd_T47 l0_1 x3_1).f0).length c310_0)).setCell ⟨gb311, 1, none⟩ (.int .i64 ((rd_T47 l0_1 x3_1).f1)))) := ⟨bb_⟩; (try clear BK308); (try clear BK311); (try clear HB); generalize ((w9.setCell ⟨gb311, 0, none⟩ (.slice A310_0 ((rd_T47 l0_1 x3_1).f0).length c310_0)).setCell ⟨gb311, 1, none⟩ (.int .i64 ((rd_T47 l0_1 x3_1).f1))) = w12 at n0_ n1_ n2_ ⊢; have BK308 := n0_; have BK311 := n1_; have HB := n2_; clear n0_ n1_ n2_; replace BK308 := am_ (blk_drew BK308.out); replace BK311 := am_ (blk_drew BK311.out); replace HB := am_ (below_drew1 HB.out); (refine start_ (n := 34) (S := fun w' => w'.cell? ⟨gb311, 0, none⟩ = some (.slice A310_0 ((rd_T47 l0_1 x3_1).f0).length c310_0) ∧ w'.cell? ⟨gb311, 1, none⟩ = some (.int .i64 ((rd_T47 l0_1 x3_1).f1)) ∧ w'.cell? ⟨gb308, 0, none⟩ = some (.int .i64 a0_0) ∧ w'.cell? ⟨gb308, 1, none⟩ = some (.slice (some ad310) l0_1.length c0_1)) (ds := []) (tf 0 34) (by kernel_rfl) rfl rfl ⟨bc_ BK311 0, bc_ BK311 1, bc_ BK308 0, bc_ BK308 1⟩ (fun hHeld => ?_); refine with_tabW spec_BagOk.tab5 spec_BagOk.bits5 (fun HT_ HW_ => ?_)); generalize w12.drew = w13 at BK308 BK311 HB hHeld ⊢; refine pl_ ?_; refine plx_ 2 #[true, false, true, false, false, false, false, false, false, false, false, false, false, false, false, false, false, false, false, false, false, false, false, false, false, false, false, false, false, false, false, false, false, false] ?_; refine tlx_ 1 (tf 3 31) ?_; refine tl_ ?_; refine on1_ (i := 4) (N := some 21) (tf 5 29) (h := fun K hK => ?_); refine gs_ Tryz.func36 #[.slice A310_0 ((rd_T47 l0_1 x3_1).f0).length c310_0, .int .i64 a0_0] ?_; (with_reducible refine (spec_l02Row.calls k1 _ _ ((rd_T47 l0_1 x3_1).f0) a0_0 true _ ?side1 ?side2 A5.out).mono ?_); (case side1 => exact ck_ (Kd.C_below HR310_0.out HB.out)); (case side2 => exact HC310_0.out); rintro e w14 ⟨rfl, hb⟩; refine ⟨_, rfl, ?_⟩; replace BK308 := bkb_ BK308 hb; replace BK311 := bkb_ BK311 hb; replace HB := bs_ hb; (try clear hb); refine hK.out _ _ ⟨bc_ BK311 0, bc_ BK311 1, bc_ BK308 0, bc_ BK308 1⟩ (fun hHeld => ?_); clear hK K; refine nm_ ?_; refine plx_ 5 (tf 6 28) ?_
       iterate 2 (refine pl_ ?_)
       refine tl_ ?_
       iterate 3 (refine pl_ ?_)
       iterate 4 (refine pd_ ?_)
       iterate 2 (refine pl_ ?_)
       iterate 15 (refine pd_ ?_)
       refine pl_ ?_; refine done_ (done_of HT_.out (by kernel_rfl)) ?_
       try go_wp2
       go_ret
       exact ⟨er_, bb_⟩
      ·rw [if_neg c7] at H
       have c7b0 : (((rd_T47 l0_1 x3_1).f1) == 0) = false := beq_eq_false_iff_ne.mpr c7; have c7b1 : (((rd_T47 l0_1 x3_1).f1) != 0) = true := bne_iff_ne.mpr c7; replace H := bsi_ H; obtain ⟨t313, A150, H⟩ := H
       try dsimp only at H
       have A15 := am_ A150; clear A150
       by_cases c16 : t313 = true
       ·subst c16
        rw [if_pos rfl] at H
        by_cases c17 : x3_1 > 0
        ·rw [if_pos c17] at H
         have c17b0 := decide_eq_true c17; clear c17; obtain ⟨ji18, hji18⟩ : ∃ j_ : Int, (wrap64 (x3_1 - 1)) = j_ := ⟨_, rfl⟩; (replace H : (if 0 ≤ (ji18) then (if (ji18) < (l0_1.length : Int) then ((spec_CompareRow.f k1 ((rd_T47 l0_1 (ji18)).f0) ((rd_T47 l0_1 x3_1).f0)).bind fun t315 => (if t315 ≥ 0 then (some false) else (spec_BagOk.l0 k1 (wrap64 (x3_1 + 1)) a0_0 l0_1))) else (none)) else (none)) = some r := by first | (rw [hji18] at H; exact H) | (simp only [hji18] at H ⊢; exact H)); (try rw [hji18] at A5); (try rw [hji18] at A15); have hji18w : (IntKind.i64.wrap (x3_1 - 1)) = ji18 := (i64_w _).trans hji18
         by_cases c19 : 0 ≤ (ji18)
         ·rw [if_pos c19] at H
          have c19b0 := decide_eq_true c19; clear c19
          by_cases c20 : (ji18) < (l0_1.length : Int)
          ·rw [if_pos c20] at H
           have c20b0 := decide_eq_true c20; clear c20; replace H := bsi_ H; obtain ⟨t315, A210, H⟩ := H
           try dsimp only at H
           have A21 := am_ A210; clear A210
           by_cases c22 : t315 ≥ 0
           ·rw [if_pos c22] at H
            have c22b0 := decide_eq_true c22; clear c22; obtain rfl := Option.some.inj H; obtain ⟨hcz23_0, hcz23_1, hfz23_0, hfz23_1⟩ := b2_ BK308; (have p310 : 0 ≤ (x3_1 : Int) := oa_); (have q310 : x3_1 < (l0_1.length : Int) := oa_); obtain ⟨ad310, A310_0, c310_0, e310, hx310_0, hx310_1, hl310_0, hi310_0⟩ := at_T47 HR0_1.out x3_1 p310 q310; cases e310; replace hx310_0 := hb_ HB hx310_0; replace hx310_1 := hb_ HB hx310_1; have HR310_0 := am_ hi310_0; have HC310_0 := am_ hl310_0; clear hi310_0 hl310_0; replace p310 := eq_true p310; replace q310 := eq_true q310
            try go_wp2_with (first | ((with_reducible refine gate_dst (N := 4) rfl ?_); (try (refine gate_guard (by rfl) ?_; dsimp only)); refine bx_ 4 #[.slice none 0 0, .int .i64 0] 47 ?_; intro gb311 hg w24 hbox hb; have BK311 := am_ (hbox); have GW311 := gw_ hg; have GE311 := gw_ hg; have NB308_311 := nl_ hg BK308; have NB311_308 := ng_ hg BK308; replace BK308 := bkb_ BK308 hb; replace HB := bs_ hb; clear hb hbox hg; have hnb25 := NB311_308.out; have hnc25 := NB308_311.out; obtain ⟨hcz26_0, hcz26_1, hfz26_0, hfz26_1⟩ := b2_ BK311))
            have n0_ : Aside0 (((w24.setCell ⟨gb311, 0, none⟩ (.slice A310_0 ((rd_T47 l0_1 x3_1).f0).length c310_0)).setCell ⟨gb311, 1, none⟩ (.int .i64 ((rd_T47 l0_1 x3_1).f1))).heap[gb308]? = some (.cells #[.int .i64 a0_0, .slice (some ad310) l0_1.length c0_1] 26 (0, 0))) := ⟨(bf2_ NB308_311 (bkx_ BK308.out))⟩; have n1_ : Aside0 (((w24.setCell ⟨gb311, 0, none⟩ (.slice A310_0 ((rd_T47 l0_1 x3_1).f0).length c310_0)).setCell ⟨gb311, 1, none⟩ (.int .i64 ((rd_T47 l0_1 x3_1).f1))).heap[gb311]? = some (.cells #[.slice A310_0 ((rd_T47 l0_1 x3_1).f0).length c310_0, .int .i64 ((rd_T47 l0_1 x3_1).f1)] 47 (0, 0))) := ⟨(bp2_ (bkx_ BK311.out))⟩; have n2_ : Aside0 (Below w.heap.size w ((w24.setCell ⟨gb311, 0, none⟩ (.slice A310_0 ((rd_T47 l0_1 x3_1).f0).length c310_0)).setCell ⟨gb311, 1, none⟩ (.int .i64 ((rd_T47 l0_1 x3_1).f1)))) := ⟨bb_⟩; (try clear BK308); (try clear BK311); (try clear HB); generalize ((w24.setCell ⟨gb311, 0, none⟩ (.slice A310_0 ((rd_T47 l0_1 x3_1).f0).length c310_0)).setCell ⟨gb311, 1, none⟩ (.int .i64 ((rd_T47 l0_1 x3_1).f1))) = w27 at n0_ n1_ n2_ ⊢; have BK308 := n0_; have BK311 := n1_; have HB := n2_; clear n0_ n1_ n2_; replace BK308 := am_ (blk_drew BK308.out); replace BK311 := am_ (blk_drew BK311.out); replace HB := am_ (below_drew1 HB.out); (have p314 : 0 ≤ ((ji18) : Int) := oa_); (have q314 : (ji18) < (l0_1.length : Int) := oa_); obtain ⟨ad314, A314_0, c314_0, e314, hx314_0, hx314_1, hl314_0, hi314_0⟩ := at_T47 HR0_1.out (ji18) p314 q314; have hw314_1 := hx314_1; have hw314_0 := hx314_0; obtain rfl : ad310 = ad314 := (by injection e314); replace hx314_0 := hb_ HB hx314_0; replace hx314_1 := hb_ HB hx314_1; have HR314_0 := am_ hi314_0; have HC314_0 := am_ hl314_0; clear hi314_0 hl314_0; replace p314 := eq_true p314; replace q314 := eq_true q314; (refine start_ (n := 34) (S := fun w' => w'.cell? ⟨gb311, 0, none⟩ = some (.slice A310_0 ((rd_T47 l0_1 x3_1).f0).length c310_0) ∧ w'.cell? ⟨gb311, 1, none⟩ = some (.int .i64 ((rd_T47 l0_1 x3_1).f1)) ∧ w'.cell? ⟨gb308, 0, none⟩ = some (.int .i64 a0_0) ∧ w'.cell? ⟨gb308, 1, none⟩ = some (.slice (some ad310) l0_1.length c0_1) ∧ w'.cell? (ad310.add (((ji18)).toNat * 2)) = some (.slice A314_0 ((rd_T47 l0_1 (ji18)).f0).length c314_0) ∧ w'.cell? ⟨(ad310.add (((ji18)).toNat * 2)).block, (ad310.add (((ji18)).toNat * 2)).off + 1, none⟩ = some (.int .i64 ((rd_T47 l0_1 (ji18)).f1))) (ds := []) (tf 0 34) (by kernel_rfl) rfl rfl ⟨bc_ BK311 0, bc_ BK311 1, bc_ BK308 0, bc_ BK308 1, (hb_ HB hw314_0), (hb_ HB hw314_1)⟩ (fun hHeld => ?_); refine with_tabW spec_BagOk.tab5 spec_BagOk.bits5 (fun HT_ HW_ => ?_)); generalize w27.drew = w28 at BK308 BK311 HB HR314_0 hx314_0 hx314_1 hHeld ⊢; refine pl_ ?_; refine plx_ 2 #[true, false, true, false, false, false, false, false, false, false, false, false, false, false, false, false, false, false, false, false, false, false, false, false, false, false, false, false, false, false, false, false, false, false] ?_; refine tlx_ 1 (tf 3 31) ?_; refine tl_ ?_; refine on1_ (i := 4) (N := some 21) (tf 5 29) (h := fun K hK => ?_); refine gs_ Tryz.func36 #[.slice A310_0 ((rd_T47 l0_1 x3_1).f0).length c310_0, .int .i64 a0_0] ?_; (with_reducible refine (spec_l02Row.calls k1 _ _ ((rd_T47 l0_1 x3_1).f0) a0_0 true _ ?side1 ?side2 A5.out).mono ?_); (case side1 => exact ck_ (Kd.C_below HR310_0.out HB.out)); (case side2 => exact HC310_0.out); rintro e w29 ⟨rfl, hb⟩; refine ⟨_, rfl, ?_⟩; replace BK308 := bkb_ BK308 hb; replace BK311 := bkb_ BK311 hb; replace HB := bs_ hb; (try clear hb); refine hK.out _ _ ⟨bc_ BK311 0, bc_ BK311 1, bc_ BK308 0, bc_ BK308 1, (have h_ := hb_ HB hw314_0; h_), (have h_ := hb_ HB hw314_1; h_)⟩ (fun hHeld => ?_); clear hK K; refine nm_ ?_; refine plx_ 5 (tf 6 28) ?_
            iterate 2 (refine pl_ ?_)
            refine tl_ ?_
            iterate 4 (refine pl_ ?_)
            refine tl_ ?_; refine on1_ (i := 14) (N := some 31) (tf 15 19) (h := fun K hK => ?_); refine gs_ Tryz.func37 #[.int .i64 ((rd_T47 l0_1 x3_1).f1), .int .i64 (-1000000000), .int .i64 1000000000] ?_; (with_reducible refine (spec_l01In.calls ((rd_T47 l0_1 x3_1).f1) (-1000000000) 1000000000 true _ A15.out).mono ?_); rintro e w' ⟨rfl, ⟨nd, rfl⟩⟩; refine ⟨_, rfl, ?_⟩; refine hK.out _ _ ⟨bc_ BK311 0, bc_ BK311 1, bc_ BK308 0, bc_ BK308 1, (have h_ := hb_ HB hw314_0; h_), (have h_ := hb_ HB hw314_1; h_)⟩ (fun hHeld => ?_); clear hK K; refine nm_ ?_; refine plx_ 15 (tf 16 18) ?_
            iterate 6 (refine pl_ ?_)
            refine plx_ 23 #[true, true, true, true, true, true, true, true, true, true, true, true, true, true, true, true, true, true, true, true, true, true, false, true, false, false, false, false, false, false, false, false, false, false] ?_; refine plx_ 24 #[true, true, true, true, true, true, true, true, true, true, true, true, true, true, true, true, true, true, true, true, true, true, false, true, true, false, false, false, false, false, false, false, false, false] ?_; refine plx_ 28 #[true, true, true, true, true, true, true, true, true, true, true, true, true, true, true, true, true, true, true, true, true, true, false, true, true, false, false, false, true, false, false, false, false, false] ?_; refine tlx_ 22 #[true, true, true, true, true, true, true, true, true, true, true, true, true, true, true, true, true, true, true, true, true, true, true, true, true, false, false, false, true, false, false, false, false, false] ?_; refine plx_ 25 #[true, true, true, true, true, true, true, true, true, true, true, true, true, true, true, true, true, true, true, true, true, true, true, true, true, true, false, false, true, false, false, false, false, false] ?_; refine plx_ 26 #[true, true, true, true, true, true, true, true, true, true, true, true, true, true, true, true, true, true, true, true, true, true, true, true, true, true, true, false, true, false, false, false, false, false] ?_; refine tlx_ 27 (tf 29 5) ?_; refine tl_ ?_; refine on1_ (i := 30) (N := some 47) (tf 31 3) (h := fun K hK => ?_); (refine goes_ Tryz.func38 (by kernel_rfl) rfl #[.slice A314_0 ((rd_T47 l0_1 (ji18)).f0).length c314_0, .slice A310_0 ((rd_T47 l0_1 x3_1).f0).length c310_0] (by rfl) rfl rfl (by (try simp only [List.map_toArray, List.map_cons, List.map_nil]); first | done | (simp only [hji18]; rfl) | rfl | (simp only [List.length_drop, List.length_take]; rfl)) ?_); (with_reducible refine (spec_CompareRow.calls k1 _ _ ((rd_T47 l0_1 (ji18)).f0) _ _ ((rd_T47 l0_1 x3_1).f0) t315 _ ?side1 ?side2 ?side3 ?side4 A21.out).mono ?_); (case side1 => exact ck_ (Kd.C_below HR314_0.out bb_)); (case side2 => exact HC314_0.out); (case side3 => exact ck_ (Kd.C_below HR310_0.out bb_)); (case side4 => exact HC310_0.out); rintro e w30 ⟨rfl, hb⟩; refine ⟨_, rfl, ?_⟩; replace BK308 := bkb_ BK308 hb; replace BK311 := bkb_ BK311 hb; replace HB := bs_ hb; (try clear hb); refine hK.out _ _ ⟨bc_ BK311 0, bc_ BK311 1, bc_ BK308 0, bc_ BK308 1, (have h_ := hb_ HB hw314_0; h_), (have h_ := hb_ HB hw314_1; h_)⟩ (fun hHeld => ?_); clear hK K; refine nm_ ?_; refine plx_ 31 (tf 32 2) ?_
            iterate 2 (refine pl_ ?_)
            refine done_ (done_of HT_.out (by kernel_rfl)) ?_
            try go_wp2
            go_ret
            (exact ⟨by first | rfl | (simp [errW_none, errW_some] <;> rfl) | (simp only [← hji18]; first | rfl | (simp [errW_none, errW_some] <;> rfl)) | (simp [*, errW_none, errW_some] <;> rfl), by repeat (first | (with_reducible first | exact HB.out | apply below_alloc | apply pw_below_drewN | apply below_drew1 | refine below_set ?_ GE308.out | refine below_set ?_ GE311.out) | exact HB.out)⟩)
           ·rw [if_neg c22] at H
            have c22b0 := decide_eq_false c22; clear c22; have H' := am_ H; clear H; obtain ⟨hcz31_0, hcz31_1, hfz31_0, hfz31_1⟩ := b2_ BK308; (have p310 : 0 ≤ (x3_1 : Int) := oa_); (have q310 : x3_1 < (l0_1.length : Int) := oa_); obtain ⟨ad310, A310_0, c310_0, e310, hx310_0, hx310_1, hl310_0, hi310_0⟩ := at_T47 HR0_1.out x3_1 p310 q310; cases e310; replace hx310_0 := hb_ HB hx310_0; replace hx310_1 := hb_ HB hx310_1; have HR310_0 := am_ hi310_0; have HC310_0 := am_ hl310_0; clear hi310_0 hl310_0; replace p310 := eq_true p310; replace q310 := eq_true q310
            try go_wp2_with (first | ((with_reducible refine gate_dst (N := 4) rfl ?_); (try (refine gate_guard (by rfl) ?_; dsimp only)); refine bx_ 4 #[.slice none 0 0, .int .i64 0] 47 ?_; intro gb311 hg w32 hbox hb; have BK311 := am_ (hbox); have GW311 := gw_ hg; have GE311 := gw_ hg; have NB308_311 := nl_ hg BK308; have NB311_308 := ng_ hg BK308; replace BK308 := bkb_ BK308 hb; replace HB := bs_ hb; clear hb hbox hg; have hnb33 := NB311_308.out; have hnc33 := NB308_311.out; obtain ⟨hcz34_0, hcz34_1, hfz34_0, hfz34_1⟩ := b2_ BK311))
            have n0_ : Aside0 (((w32.setCell ⟨gb311, 0, none⟩ (.slice A310_0 ((rd_T47 l0_1 x3_1).f0).length c310_0)).setCell ⟨gb311, 1, none⟩ (.int .i64 ((rd_T47 l0_1 x3_1).f1))).heap[gb308]? = some (.cells #[.int .i64 a0_0, .slice (some ad310) l0_1.length c0_1] 26 (0, 0))) := ⟨(bf2_ NB308_311 (bkx_ BK308.out))⟩; have n1_ : Aside0 (((w32.setCell ⟨gb311, 0, none⟩ (.slice A310_0 ((rd_T47 l0_1 x3_1).f0).length c310_0)).setCell ⟨gb311, 1, none⟩ (.int .i64 ((rd_T47 l0_1 x3_1).f1))).heap[gb311]? = some (.cells #[.slice A310_0 ((rd_T47 l0_1 x3_1).f0).length c310_0, .int .i64 ((rd_T47 l0_1 x3_1).f1)] 47 (0, 0))) := ⟨(bp2_ (bkx_ BK311.out))⟩; have n2_ : Aside0 (Below w.heap.size w ((w32.setCell ⟨gb311, 0, none⟩ (.slice A310_0 ((rd_T47 l0_1 x3_1).f0).length c310_0)).setCell ⟨gb311, 1, none⟩ (.int .i64 ((rd_T47 l0_1 x3_1).f1)))) := ⟨bb_⟩; (try clear BK308); (try clear BK311); (try clear HB); generalize ((w32.setCell ⟨gb311, 0, none⟩ (.slice A310_0 ((rd_T47 l0_1 x3_1).f0).length c310_0)).setCell ⟨gb311, 1, none⟩ (.int .i64 ((rd_T47 l0_1 x3_1).f1))) = w35 at n0_ n1_ n2_ ⊢; have BK308 := n0_; have BK311 := n1_; have HB := n2_; clear n0_ n1_ n2_; replace BK308 := am_ (blk_drew BK308.out); replace BK311 := am_ (blk_drew BK311.out); replace HB := am_ (below_drew1 HB.out); (have p314 : 0 ≤ ((ji18) : Int) := oa_); (have q314 : (ji18) < (l0_1.length : Int) := oa_); obtain ⟨ad314, A314_0, c314_0, e314, hx314_0, hx314_1, hl314_0, hi314_0⟩ := at_T47 HR0_1.out (ji18) p314 q314; have hw314_1 := hx314_1; have hw314_0 := hx314_0; obtain rfl : ad310 = ad314 := (by injection e314); replace hx314_0 := hb_ HB hx314_0; replace hx314_1 := hb_ HB hx314_1; have HR314_0 := am_ hi314_0; have HC314_0 := am_ hl314_0; clear hi314_0 hl314_0; replace p314 := eq_true p314; replace q314 := eq_true q314; (refine start_ (n := 34) (S := fun w' => w'.cell? ⟨gb311, 0, none⟩ = some (.slice A310_0 ((rd_T47 l0_1 x3_1).f0).length c310_0) ∧ w'.cell? ⟨gb311, 1, none⟩ = some (.int .i64 ((rd_T47 l0_1 x3_1).f1)) ∧ w'.cell? ⟨gb308, 0, none⟩ = some (.int .i64 a0_0) ∧ w'.cell? ⟨gb308, 1, none⟩ = some (.slice (some ad310) l0_1.length c0_1) ∧ w'.cell? (ad310.add (((ji18)).toNat * 2)) = some (.slice A314_0 ((rd_T47 l0_1 (ji18)).f0).length c314_0) ∧ w'.cell? ⟨(ad310.add (((ji18)).toNat * 2)).block, (ad310.add (((ji18)).toNat * 2)).off + 1, none⟩ = some (.int .i64 ((rd_T47 l0_1 (ji18)).f1))) (ds := []) (tf 0 34) (by kernel_rfl) rfl rfl ⟨bc_ BK311 0, bc_ BK311 1, bc_ BK308 0, bc_ BK308 1, (hb_ HB hw314_0), (hb_ HB hw314_1)⟩ (fun hHeld => ?_); refine with_tabW spec_BagOk.tab5 spec_BagOk.bits5 (fun HT_ HW_ => ?_)); generalize w35.drew = w36 at BK308 BK311 HB HR314_0 hx314_0 hx314_1 hHeld ⊢; refine pl_ ?_; refine plx_ 2 #[true, false, true, false, false, false, false, false, false, false, false, false, false, false, false, false, false, false, false, false, false, false, false, false, false, false, false, false, false, false, false, false, false, false] ?_; refine tlx_ 1 (tf 3 31) ?_; refine tl_ ?_; refine on1_ (i := 4) (N := some 21) (tf 5 29) (h := fun K hK => ?_); refine gs_ Tryz.func36 #[.slice A310_0 ((rd_T47 l0_1 x3_1).f0).length c310_0, .int .i64 a0_0] ?_; (with_reducible refine (spec_l02Row.calls k1 _ _ ((rd_T47 l0_1 x3_1).f0) a0_0 true _ ?side1 ?side2 A5.out).mono ?_); (case side1 => exact ck_ (Kd.C_below HR310_0.out HB.out)); (case side2 => exact HC310_0.out); rintro e w37 ⟨rfl, hb⟩; refine ⟨_, rfl, ?_⟩; replace BK308 := bkb_ BK308 hb; replace BK311 := bkb_ BK311 hb; replace HB := bs_ hb; (try clear hb); refine hK.out _ _ ⟨bc_ BK311 0, bc_ BK311 1, bc_ BK308 0, bc_ BK308 1, (have h_ := hb_ HB hw314_0; h_), (have h_ := hb_ HB hw314_1; h_)⟩ (fun hHeld => ?_); clear hK K; refine nm_ ?_; refine plx_ 5 (tf 6 28) ?_
            iterate 2 (refine pl_ ?_)
            refine tl_ ?_
            iterate 4 (refine pl_ ?_)
            refine tl_ ?_; refine on1_ (i := 14) (N := some 31) (tf 15 19) (h := fun K hK => ?_); refine gs_ Tryz.func37 #[.int .i64 ((rd_T47 l0_1 x3_1).f1), .int .i64 (-1000000000), .int .i64 1000000000] ?_; (with_reducible refine (spec_l01In.calls ((rd_T47 l0_1 x3_1).f1) (-1000000000) 1000000000 true _ A15.out).mono ?_); rintro e w' ⟨rfl, ⟨nd, rfl⟩⟩; refine ⟨_, rfl, ?_⟩; refine hK.out _ _ ⟨bc_ BK311 0, bc_ BK311 1, bc_ BK308 0, bc_ BK308 1, (have h_ := hb_ HB hw314_0; h_), (have h_ := hb_ HB hw314_1; h_)⟩ (fun hHeld => ?_); clear hK K; refine nm_ ?_; refine plx_ 15 (tf 16 18) ?_
            iterate 6 (refine pl_ ?_)
            refine plx_ 23 #[true, true, true, true, true, true, true, true, true, true, true, true, true, true, true, true, true, true, true, true, true, true, false, true, false, false, false, false, false, false, false, false, false, false] ?_; refine plx_ 24 #[true, true, true, true, true, true, true, true, true, true, true, true, true, true, true, true, true, true, true, true, true, true, false, true, true, false, false, false, false, false, false, false, false, false] ?_; refine plx_ 28 #[true, true, true, true, true, true, true, true, true, true, true, true, true, true, true, true, true, true, true, true, true, true, false, true, true, false, false, false, true, false, false, false, false, false] ?_; refine tlx_ 22 #[true, true, true, true, true, true, true, true, true, true, true, true, true, true, true, true, true, true, true, true, true, true, true, true, true, false, false, false, true, false, false, false, false, false] ?_; refine plx_ 25 #[true, true, true, true, true, true, true, true, true, true, true, true, true, true, true, true, true, true, true, true, true, true, true, true, true, true, false, false, true, false, false, false, false, false] ?_; refine plx_ 26 #[true, true, true, true, true, true, true, true, true, true, true, true, true, true, true, true, true, true, true, true, true, true, true, true, true, true, true, false, true, false, false, false, false, false] ?_; refine tlx_ 27 (tf 29 5) ?_; refine tl_ ?_; refine on1_ (i := 30) (N := some 47) (tf 31 3) (h := fun K hK => ?_); (refine goes_ Tryz.func38 (by kernel_rfl) rfl #[.slice A314_0 ((rd_T47 l0_1 (ji18)).f0).length c314_0, .slice A310_0 ((rd_T47 l0_1 x3_1).f0).length c310_0] (by rfl) rfl rfl (by (try simp only [List.map_toArray, List.map_cons, List.map_nil]); first | done | (simp only [hji18]; rfl) | rfl | (simp only [List.length_drop, List.length_take]; rfl)) ?_); (with_reducible refine (spec_CompareRow.calls k1 _ _ ((rd_T47 l0_1 (ji18)).f0) _ _ ((rd_T47 l0_1 x3_1).f0) t315 _ ?side1 ?side2 ?side3 ?side4 A21.out).mono ?_); (case side1 => exact ck_ (Kd.C_below HR314_0.out bb_)); (case side2 => exact HC314_0.out); (case side3 => exact ck_ (Kd.C_below HR310_0.out bb_)); (case side4 => exact HC310_0.out); rintro e w38 ⟨rfl, hb⟩; refine ⟨_, rfl, ?_⟩; replace BK308 := bkb_ BK308 hb; replace BK311 := bkb_ BK311 hb; replace HB := bs_ hb; (try clear hb); refine hK.out _ _ ⟨bc_ BK311 0, bc_ BK311 1, bc_ BK308 0, bc_ BK308 1, (have h_ := hb_ HB hw314_0; h_), (have h_ := hb_ HB hw314_1; h_)⟩ (fun hHeld => ?_); clear hK K; refine nm_ ?_; refine plx_ 31 (tf 32 2) ?_
            iterate 2 (refine pl_ ?_)
            refine done_ (done_of HT_.out (by kernel_rfl)) ?_
            try go_wp2
            go_roundg k1
            case measure => have := HK1.out; omega
            case rel => exact ⟨(wrap64 (x3_1 + 1)), rs_, H', ⟨by have := HK1.out; omega⟩, ⟨bkx_ BK308.out⟩, ⟨bb_⟩⟩
          ·rw [if_neg c20] at H
           exact nn_ H
         ·rw [if_neg c19] at H
          exact nn_ H
        ·rw [if_neg c17] at H
         have c17b0 := decide_eq_false c17; clear c17; have H' := am_ H; clear H; obtain ⟨hcz39_0, hcz39_1, hfz39_0, hfz39_1⟩ := b2_ BK308; (have p310 : 0 ≤ (x3_1 : Int) := oa_); (have q310 : x3_1 < (l0_1.length : Int) := oa_); obtain ⟨ad310, A310_0, c310_0, e310, hx310_0, hx310_1, hl310_0, hi310_0⟩ := at_T47 HR0_1.out x3_1 p310 q310; cases e310; replace hx310_0 := hb_ HB hx310_0; replace hx310_1 := hb_ HB hx310_1; have HR310_0 := am_ hi310_0; have HC310_0 := am_ hl310_0; clear hi310_0 hl310_0; replace p310 := eq_true p310; replace q310 := eq_true q310
         try go_wp2_with (first | ((with_reducible refine gate_dst (N := 4) rfl ?_); (try (refine gate_guard (by rfl) ?_; dsimp only)); refine bx_ 4 #[.slice none 0 0, .int .i64 0] 47 ?_; intro gb311 hg w40 hbox hb; have BK311 := am_ (hbox); have GW311 := gw_ hg; have GE311 := gw_ hg; have NB308_311 := nl_ hg BK308; have NB311_308 := ng_ hg BK308; replace BK308 := bkb_ BK308 hb; replace HB := bs_ hb; clear hb hbox hg; have hnb41 := NB311_308.out; have hnc41 := NB308_311.out; obtain ⟨hcz42_0, hcz42_1, hfz42_0, hfz42_1⟩ := b2_ BK311))
         have n0_ : Aside0 (((w40.setCell ⟨gb311, 0, none⟩ (.slice A310_0 ((rd_T47 l0_1 x3_1).f0).length c310_0)).setCell ⟨gb311, 1, none⟩ (.int .i64 ((rd_T47 l0_1 x3_1).f1))).heap[gb308]? = some (.cells #[.int .i64 a0_0, .slice (some ad310) l0_1.length c0_1] 26 (0, 0))) := ⟨(bf2_ NB308_311 (bkx_ BK308.out))⟩; have n1_ : Aside0 (((w40.setCell ⟨gb311, 0, none⟩ (.slice A310_0 ((rd_T47 l0_1 x3_1).f0).length c310_0)).setCell ⟨gb311, 1, none⟩ (.int .i64 ((rd_T47 l0_1 x3_1).f1))).heap[gb311]? = some (.cells #[.slice A310_0 ((rd_T47 l0_1 x3_1).f0).length c310_0, .int .i64 ((rd_T47 l0_1 x3_1).f1)] 47 (0, 0))) := ⟨(bp2_ (bkx_ BK311.out))⟩; have n2_ : Aside0 (Below w.heap.size w ((w40.setCell ⟨gb311, 0, none⟩ (.slice A310_0 ((rd_T47 l0_1 x3_1).f0).length c310_0)).setCell ⟨gb311, 1, none⟩ (.int .i64 ((rd_T47 l0_1 x3_1).f1)))) := ⟨bb_⟩; (try clear BK308); (try clear BK311); (try clear HB); generalize ((w40.setCell ⟨gb311, 0, none⟩ (.slice A310_0 ((rd_T47 l0_1 x3_1).f0).length c310_0)).setCell ⟨gb311, 1, none⟩ (.int .i64 ((rd_T47 l0_1 x3_1).f1))) = w43 at n0_ n1_ n2_ ⊢; have BK308 := n0_; have BK311 := n1_; have HB := n2_; clear n0_ n1_ n2_; replace BK308 := am_ (blk_drew BK308.out); replace BK311 := am_ (blk_drew BK311.out); replace HB := am_ (below_drew1 HB.out); (refine start_ (n := 34) (S := fun w' => w'.cell? ⟨gb311, 0, none⟩ = some (.slice A310_0 ((rd_T47 l0_1 x3_1).f0).length c310_0) ∧ w'.cell? ⟨gb311, 1, none⟩ = some (.int .i64 ((rd_T47 l0_1 x3_1).f1)) ∧ w'.cell? ⟨gb308, 0, none⟩ = some (.int .i64 a0_0) ∧ w'.cell? ⟨gb308, 1, none⟩ = some (.slice (some ad310) l0_1.length c0_1)) (ds := []) (tf 0 34) (by kernel_rfl) rfl rfl ⟨bc_ BK311 0, bc_ BK311 1, bc_ BK308 0, bc_ BK308 1⟩ (fun hHeld => ?_); refine with_tabW spec_BagOk.tab5 spec_BagOk.bits5 (fun HT_ HW_ => ?_)); generalize w43.drew = w44 at BK308 BK311 HB hHeld ⊢; refine pl_ ?_; refine plx_ 2 #[true, false, true, false, false, false, false, false, false, false, false, false, false, false, false, false, false, false, false, false, false, false, false, false, false, false, false, false, false, false, false, false, false, false] ?_; refine tlx_ 1 (tf 3 31) ?_; refine tl_ ?_; refine on1_ (i := 4) (N := some 21) (tf 5 29) (h := fun K hK => ?_); refine gs_ Tryz.func36 #[.slice A310_0 ((rd_T47 l0_1 x3_1).f0).length c310_0, .int .i64 a0_0] ?_; (with_reducible refine (spec_l02Row.calls k1 _ _ ((rd_T47 l0_1 x3_1).f0) a0_0 true _ ?side1 ?side2 A5.out).mono ?_); (case side1 => exact ck_ (Kd.C_below HR310_0.out HB.out)); (case side2 => exact HC310_0.out); rintro e w45 ⟨rfl, hb⟩; refine ⟨_, rfl, ?_⟩; replace BK308 := bkb_ BK308 hb; replace BK311 := bkb_ BK311 hb; replace HB := bs_ hb; (try clear hb); refine hK.out _ _ ⟨bc_ BK311 0, bc_ BK311 1, bc_ BK308 0, bc_ BK308 1⟩ (fun hHeld => ?_); clear hK K; refine nm_ ?_; refine plx_ 5 (tf 6 28) ?_
         iterate 2 (refine pl_ ?_)
         refine tl_ ?_
         iterate 4 (refine pl_ ?_)
         refine tl_ ?_; refine on1_ (i := 14) (N := some 31) (tf 15 19) (h := fun K hK => ?_); refine gs_ Tryz.func37 #[.int .i64 ((rd_T47 l0_1 x3_1).f1), .int .i64 (-1000000000), .int .i64 1000000000] ?_; (with_reducible refine (spec_l01In.calls ((rd_T47 l0_1 x3_1).f1) (-1000000000) 1000000000 true _ A15.out).mono ?_); rintro e w' ⟨rfl, ⟨nd, rfl⟩⟩; refine ⟨_, rfl, ?_⟩; refine hK.out _ _ ⟨bc_ BK311 0, bc_ BK311 1, bc_ BK308 0, bc_ BK308 1⟩ (fun hHeld => ?_); clear hK K; refine nm_ ?_; refine plx_ 15 (tf 16 18) ?_
         iterate 5 (refine pl_ ?_)
         iterate 11 (refine pd_ ?_)
         iterate 2 (refine pl_ ?_)
         refine done_ (done_of HT_.out (by kernel_rfl)) ?_
         try go_wp2
         go_roundg k1
         case measure => have := HK1.out; omega
         case rel => exact ⟨(wrap64 (x3_1 + 1)), rs_, H', ⟨by have := HK1.out; omega⟩, ⟨bkx_ BK308.out⟩, ⟨bb_⟩⟩
       ·replace c16 := Bool.eq_false_iff.mpr c16
        subst c16; (rw [if_neg (show ¬ (false = true) by decide)] at H); obtain rfl := Option.some.inj H; obtain ⟨hcz46_0, hcz46_1, hfz46_0, hfz46_1⟩ := b2_ BK308; (have p310 : 0 ≤ (x3_1 : Int) := oa_); (have q310 : x3_1 < (l0_1.length : Int) := oa_); obtain ⟨ad310, A310_0, c310_0, e310, hx310_0, hx310_1, hl310_0, hi310_0⟩ := at_T47 HR0_1.out x3_1 p310 q310; cases e310; replace hx310_0 := hb_ HB hx310_0; replace hx310_1 := hb_ HB hx310_1; have HR310_0 := am_ hi310_0; have HC310_0 := am_ hl310_0; clear hi310_0 hl310_0; replace p310 := eq_true p310; replace q310 := eq_true q310
        try go_wp2_with (first | ((with_reducible refine gate_dst (N := 4) rfl ?_); (try (refine gate_guard (by rfl) ?_; dsimp only)); refine bx_ 4 #[.slice none 0 0, .int .i64 0] 47 ?_; intro gb311 hg w47 hbox hb; have BK311 := am_ (hbox); have GW311 := gw_ hg; have GE311 := gw_ hg; have NB308_311 := nl_ hg BK308; have NB311_308 := ng_ hg BK308; replace BK308 := bkb_ BK308 hb; replace HB := bs_ hb; clear hb hbox hg; have hnb48 := NB311_308.out; have hnc48 := NB308_311.out; obtain ⟨hcz49_0, hcz49_1, hfz49_0, hfz49_1⟩ := b2_ BK311))
        have n0_ : Aside0 (((w47.setCell ⟨gb311, 0, none⟩ (.slice A310_0 ((rd_T47 l0_1 x3_1).f0).length c310_0)).setCell ⟨gb311, 1, none⟩ (.int .i64 ((rd_T47 l0_1 x3_1).f1))).heap[gb308]? = some (.cells #[.int .i64 a0_0, .slice (some ad310) l0_1.length c0_1] 26 (0, 0))) := ⟨(bf2_ NB308_311 (bkx_ BK308.out))⟩; have n1_ : Aside0 (((w47.setCell ⟨gb311, 0, none⟩ (.slice A310_0 ((rd_T47 l0_1 x3_1).f0).length c310_0)).setCell ⟨gb311, 1, none⟩ (.int .i64 ((rd_T47 l0_1 x3_1).f1))).heap[gb311]? = some (.cells #[.slice A310_0 ((rd_T47 l0_1 x3_1).f0).length c310_0, .int .i64 ((rd_T47 l0_1 x3_1).f1)] 47 (0, 0))) := ⟨(bp2_ (bkx_ BK311.out))⟩; have n2_ : Aside0 (Below w.heap.size w ((w47.setCell ⟨gb311, 0, none⟩ (.slice A310_0 ((rd_T47 l0_1 x3_1).f0).length c310_0)).setCell ⟨gb311, 1, none⟩ (.int .i64 ((rd_T47 l0_1 x3_1).f1)))) := ⟨bb_⟩; (try clear BK308); (try clear BK311); (try clear HB); generalize ((w47.setCell ⟨gb311, 0, none⟩ (.slice A310_0 ((rd_T47 l0_1 x3_1).f0).length c310_0)).setCell ⟨gb311, 1, none⟩ (.int .i64 ((rd_T47 l0_1 x3_1).f1))) = w50 at n0_ n1_ n2_ ⊢; have BK308 := n0_; have BK311 := n1_; have HB := n2_; clear n0_ n1_ n2_; replace BK308 := am_ (blk_drew BK308.out); replace BK311 := am_ (blk_drew BK311.out); replace HB := am_ (below_drew1 HB.out); (refine start_ (n := 34) (S := fun w' => w'.cell? ⟨gb311, 0, none⟩ = some (.slice A310_0 ((rd_T47 l0_1 x3_1).f0).length c310_0) ∧ w'.cell? ⟨gb311, 1, none⟩ = some (.int .i64 ((rd_T47 l0_1 x3_1).f1)) ∧ w'.cell? ⟨gb308, 0, none⟩ = some (.int .i64 a0_0) ∧ w'.cell? ⟨gb308, 1, none⟩ = some (.slice (some ad310) l0_1.length c0_1)) (ds := []) (tf 0 34) (by kernel_rfl) rfl rfl ⟨bc_ BK311 0, bc_ BK311 1, bc_ BK308 0, bc_ BK308 1⟩ (fun hHeld => ?_); refine with_tabW spec_BagOk.tab5 spec_BagOk.bits5 (fun HT_ HW_ => ?_)); generalize w50.drew = w51 at BK308 BK311 HB hHeld ⊢; refine pl_ ?_; refine plx_ 2 #[true, false, true, false, false, false, false, false, false, false, false, false, false, false, false, false, false, false, false, false, false, false, false, false, false, false, false, false, false, false, false, false, false, false] ?_; refine tlx_ 1 (tf 3 31) ?_; refine tl_ ?_; refine on1_ (i := 4) (N := some 21) (tf 5 29) (h := fun K hK => ?_); refine gs_ Tryz.func36 #[.slice A310_0 ((rd_T47 l0_1 x3_1).f0).length c310_0, .int .i64 a0_0] ?_; (with_reducible refine (spec_l02Row.calls k1 _ _ ((rd_T47 l0_1 x3_1).f0) a0_0 true _ ?side1 ?side2 A5.out).mono ?_); (case side1 => exact ck_ (Kd.C_below HR310_0.out HB.out)); (case side2 => exact HC310_0.out); rintro e w52 ⟨rfl, hb⟩; refine ⟨_, rfl, ?_⟩; replace BK308 := bkb_ BK308 hb; replace BK311 := bkb_ BK311 hb; replace HB := bs_ hb; (try clear hb); refine hK.out _ _ ⟨bc_ BK311 0, bc_ BK311 1, bc_ BK308 0, bc_ BK308 1⟩ (fun hHeld => ?_); clear hK K; refine nm_ ?_; refine plx_ 5 (tf 6 28) ?_
        iterate 2 (refine pl_ ?_)
        refine tl_ ?_
        iterate 4 (refine pl_ ?_)
        refine tl_ ?_; refine on1_ (i := 14) (N := some 31) (tf 15 19) (h := fun K hK => ?_); refine gs_ Tryz.func37 #[.int .i64 ((rd_T47 l0_1 x3_1).f1), .int .i64 (-1000000000), .int .i64 1000000000] ?_; (with_reducible refine (spec_l01In.calls ((rd_T47 l0_1 x3_1).f1) (-1000000000) 1000000000 false _ A15.out).mono ?_); rintro e w' ⟨rfl, ⟨nd, rfl⟩⟩; refine ⟨_, rfl, ?_⟩; refine hK.out _ _ ⟨bc_ BK311 0, bc_ BK311 1, bc_ BK308 0, bc_ BK308 1⟩ (fun hHeld => ?_); clear hK K; refine nm_ ?_; refine plx_ 15 (tf 16 18) ?_
        iterate 2 (refine pl_ ?_)
        iterate 15 (refine pd_ ?_)
        refine pl_ ?_; refine done_ (done_of HT_.out (by kernel_rfl)) ?_
        try go_wp2
        go_ret
        exact ⟨er_, bb_⟩
     ·replace c6 := Bool.eq_false_iff.mpr c6
      subst c6; (rw [if_neg (show ¬ (false = true) by decide)] at H); obtain rfl := Option.some.inj H; obtain ⟨hcz53_0, hcz53_1, hfz53_0, hfz53_1⟩ := b2_ BK308; (have p310 : 0 ≤ (x3_1 : Int) := oa_); (have q310 : x3_1 < (l0_1.length : Int) := oa_); obtain ⟨ad310, A310_0, c310_0, e310, hx310_0, hx310_1, hl310_0, hi310_0⟩ := at_T47 HR0_1.out x3_1 p310 q310; cases e310; replace hx310_0 := hb_ HB hx310_0; replace hx310_1 := hb_ HB hx310_1; have HR310_0 := am_ hi310_0; have HC310_0 := am_ hl310_0; clear hi310_0 hl310_0; replace p310 := eq_true p310; replace q310 := eq_true q310
      try go_wp2_with (first | ((with_reducible refine gate_dst (N := 4) rfl ?_); (try (refine gate_guard (by rfl) ?_; dsimp only)); refine bx_ 4 #[.slice none 0 0, .int .i64 0] 47 ?_; intro gb311 hg w54 hbox hb; have BK311 := am_ (hbox); have GW311 := gw_ hg; have GE311 := gw_ hg; have NB308_311 := nl_ hg BK308; have NB311_308 := ng_ hg BK308; replace BK308 := bkb_ BK308 hb; replace HB := bs_ hb; clear hb hbox hg; have hnb55 := NB311_308.out; have hnc55 := NB308_311.out; obtain ⟨hcz56_0, hcz56_1, hfz56_0, hfz56_1⟩ := b2_ BK311))
      have n0_ : Aside0 (((w54.setCell ⟨gb311, 0, none⟩ (.slice A310_0 ((rd_T47 l0_1 x3_1).f0).length c310_0)).setCell ⟨gb311, 1, none⟩ (.int .i64 ((rd_T47 l0_1 x3_1).f1))).heap[gb308]? = some (.cells #[.int .i64 a0_0, .slice (some ad310) l0_1.length c0_1] 26 (0, 0))) := ⟨(bf2_ NB308_311 (bkx_ BK308.out))⟩; have n1_ : Aside0 (((w54.setCell ⟨gb311, 0, none⟩ (.slice A310_0 ((rd_T47 l0_1 x3_1).f0).length c310_0)).setCell ⟨gb311, 1, none⟩ (.int .i64 ((rd_T47 l0_1 x3_1).f1))).heap[gb311]? = some (.cells #[.slice A310_0 ((rd_T47 l0_1 x3_1).f0).length c310_0, .int .i64 ((rd_T47 l0_1 x3_1).f1)] 47 (0, 0))) := ⟨(bp2_ (bkx_ BK311.out))⟩; have n2_ : Aside0 (Below w.heap.size w ((w54.setCell ⟨gb311, 0, none⟩ (.slice A310_0 ((rd_T47 l0_1 x3_1).f0).length c310_0)).setCell ⟨gb311, 1, none⟩ (.int .i64 ((rd_T47 l0_1 x3_1).f1)))) := ⟨bb_⟩; (try clear BK308); (try clear BK311); (try clear HB); generalize ((w54.setCell ⟨gb311, 0, none⟩ (.slice A310_0 ((rd_T47 l0_1 x3_1).f0).length c310_0)).setCell ⟨gb311, 1, none⟩ (.int .i64 ((rd_T47 l0_1 x3_1).f1))) = w57 at n0_ n1_ n2_ ⊢; have BK308 := n0_; have BK311 := n1_; have HB := n2_; clear n0_ n1_ n2_; replace BK308 := am_ (blk_drew BK308.out); replace BK311 := am_ (blk_drew BK311.out); replace HB := am_ (below_drew1 HB.out); (refine start_ (n := 34) (S := fun w' => w'.cell? ⟨gb311, 0, none⟩ = some (.slice A310_0 ((rd_T47 l0_1 x3_1).f0).length c310_0) ∧ w'.cell? ⟨gb311, 1, none⟩ = some (.int .i64 ((rd_T47 l0_1 x3_1).f1)) ∧ w'.cell? ⟨gb308, 0, none⟩ = some (.int .i64 a0_0) ∧ w'.cell? ⟨gb308, 1, none⟩ = some (.slice (some ad310) l0_1.length c0_1)) (ds := []) (tf 0 34) (by kernel_rfl) rfl rfl ⟨bc_ BK311 0, bc_ BK311 1, bc_ BK308 0, bc_ BK308 1⟩ (fun hHeld => ?_); refine with_tabW spec_BagOk.tab5 spec_BagOk.bits5 (fun HT_ HW_ => ?_)); generalize w57.drew = w58 at BK308 BK311 HB hHeld ⊢; refine pl_ ?_; refine plx_ 2 #[true, false, true, false, false, false, false, false, false, false, false, false, false, false, false, false, false, false, false, false, false, false, false, false, false, false, false, false, false, false, false, false, false, false] ?_; refine tlx_ 1 (tf 3 31) ?_; refine tl_ ?_; refine on1_ (i := 4) (N := some 21) (tf 5 29) (h := fun K hK => ?_); refine gs_ Tryz.func36 #[.slice A310_0 ((rd_T47 l0_1 x3_1).f0).length c310_0, .int .i64 a0_0] ?_; (with_reducible refine (spec_l02Row.calls k1 _ _ ((rd_T47 l0_1 x3_1).f0) a0_0 false _ ?side1 ?side2 A5.out).mono ?_); (case side1 => exact ck_ (Kd.C_below HR310_0.out HB.out)); (case side2 => exact HC310_0.out); rintro e w59 ⟨rfl, hb⟩; refine ⟨_, rfl, ?_⟩; replace BK308 := bkb_ BK308 hb; replace BK311 := bkb_ BK311 hb; replace HB := bs_ hb; (try clear hb); refine hK.out _ _ ⟨bc_ BK311 0, bc_ BK311 1, bc_ BK308 0, bc_ BK308 1⟩ (fun hHeld => ?_); clear hK K; refine nm_ ?_; refine plx_ 5 (tf 6 28) ?_; refine pl_ ?_
      iterate 3 (refine pd_ ?_)
      iterate 2 (refine pl_ ?_)
      iterate 4 (refine pd_ ?_)
      iterate 2 (refine pl_ ?_)
      iterate 15 (refine pd_ ?_)
      refine pl_ ?_; refine done_ (done_of HT_.out (by kernel_rfl)) ?_
      try go_wp2
      go_ret
      exact ⟨er_, bb_⟩
    ·rw [if_neg c4] at H
     exact nn_ H
   ·rw [if_neg c3] at H
    have c3b0 := decide_eq_false c3; clear c3; replace H := bsi_ H; obtain ⟨t309, A600, H⟩ := H
    try dsimp only at H
    have A60 := am_ A600; clear A600
    by_cases c61 : t309 = true
    ·subst c61
     rw [if_pos rfl] at H; obtain rfl := Option.some.inj H; obtain ⟨hcz62_0, hcz62_1, hfz62_0, hfz62_1⟩ := b2_ BK308
     go_wp2_with (first | ((with_reducible refine gate_callee (f := 37) rfl ?_); refine gsL_ (some 53) Tryz.func37 #[.int .i64 a0_0, .int .i64 0, .int .i64 12] ?_; (with_reducible refine (spec_l01In.calls a0_0 0 12 true _ A60.out).mono ?_); rintro e w' ⟨rfl, ⟨nd, rfl⟩⟩; refine ⟨_, rfl, ?_⟩))
     go_ret
     exact ⟨er_, bb_⟩
    ·replace c61 := Bool.eq_false_iff.mpr c61
     subst c61; (rw [if_neg (show ¬ (false = true) by decide)] at H); obtain rfl := Option.some.inj H; obtain ⟨hcz63_0, hcz63_1, hfz63_0, hfz63_1⟩ := b2_ BK308
     go_wp2_with (first | ((with_reducible refine gate_callee (f := 37) rfl ?_); refine gsL_ (some 53) Tryz.func37 #[.int .i64 a0_0, .int .i64 0, .int .i64 12] ?_; (with_reducible refine (spec_l01In.calls a0_0 0 12 false _ A60.out).mono ?_); rintro e w' ⟨rfl, ⟨nd, rfl⟩⟩; refine ⟨_, rfl, ?_⟩))
     go_ret
     exact ⟨er_, bb_⟩
end Go.Proofs.YtoajedijckkjjaaGreatDoor.PFnBagBytes
