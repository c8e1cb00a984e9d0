-- WRITTEN BY xprint.py, a program of this session over the kit's printer: by nobody's hand
-- PRESSED
import Derived.Test.YtapgfamppnhnmaaPress
import Derived.Test.YtapgfamppnhnmaaPFnExactBagOfx0
import Derived.Test.YtapgfamppnhnmaaPFnExactBagOfx1
import Derived.Test.YtapgfamppnhnmaaPFnExactBagOfx3
namespace Go.Proofs.Ytapgfamppnhnmaa.PFnExactBagOf
open Go.RowKit Go.Proofs.YtapgfamppnhnmaaW.PrintWords Go.Proofs.YtapgfamppnhnmaaW.PrintLast Go.Proofs.YtapgfamppnhnmaaW.PrintMore
attribute [local go_sem] max2_int min2_int max_two min_two max_three min_three max_four min_four   -- for this text's walks alone
set_option linter.unusedVariables false
set_option linter.unusedSimpArgs false

/-! ### spec_BagOk: function 56 -/
def spec_BagOk.l0 : Nat → Int → Int → List (S74) → Option (Bool)
 | 0, _, _, _ => none
 | k + 1, x3, x120000, x120001 => if x3 < (x120001.length : Int) then (if 0 ≤ x3 then ((spec_l02Row.f k ((rd_T74 x120001 x3).f0) x120000).bind fun t123 => (if t123 = true then (if ((rd_T74 x120001 x3).f1) = 0 then (some false) else ((spec_l01In.f ((rd_T74 x120001 x3).f1) (-1000000000) 1000000000).bind fun t124 => (if t124 = true then (if x3 > 0 then (if 0 ≤ (wrap64 (x3 - 1)) then (if (wrap64 (x3 - 1)) < (x120001.length : Int) then ((spec_CompareRow.f k ((rd_T74 x120001 (wrap64 (x3 - 1))).f0) ((rd_T74 x120001 x3).f0)).bind fun t126 => (if t126 ≥ 0 then (some false) else (spec_BagOk.l0 k (wrap64 (x3 + 1)) x120000 x120001))) else (none)) else (none)) else (spec_BagOk.l0 k (wrap64 (x3 + 1)) x120000 x120001)) else (some false)))) else (some false))) else (none)) else ((spec_l01In.f x120000 0 12).bind fun t120 => (if t120 = true then (some (decide ((x120001.length : Int) ≤ 400))) else (some false)))
def spec_BagOk.f (k : Nat) (a0_0 : Int) (l0_1 : List (S74)) : Option (Bool) := spec_BagOk.l0 k 0 a0_0 l0_1
def spec_BagOk.T5 : Bool × List (List Nat × List Nat) := (true, [([], []), ([0], [0]), ([], []), ([2], [2]), ([1, 3], [1, 3]), ([4], [4]), ([5, 4], [5]), ([6], [6]), ([7, 6], [6, 7]), ([8, 6], [6, 8]), ([6, 9], [6, 9]), ([10, 6], [10]), ([11], [11]), ([12, 11], [11, 12]), ([13, 11, 11], [11, 13]), ([14, 11], [11, 14]), ([11, 15], [11, 15]), ([16, 14], [16]), ([17], [17]), ([18, 17], [17, 18]), ([19, 17, 17], [17, 19]), ([20], [20]), ([21, 20], [20, 21]), ([20], [20]), ([23, 20], [20, 23]), ([22, 24, 20], [20, 22, 24]), ([25, 20], [20, 25]), ([26, 20], [20, 26]), ([20], [20]), ([28, 20], [20, 28]), ([27, 29, 20, 20], [20, 27, 29]), ([30, 20], [20, 30]), ([20, 31, 17], [17, 20, 31]), ([17, 32], [17, 32])])
def spec_BagOk.B5 : List Nat := [0, 1, 0, 4, 15, 31, 63, 127, 255, 511, 1023, 2047, 4095, 8191, 16383, 32767, 65535, 131071, 262143, 524287, 1048575, 2097151, 4194303, 2097151, 10485759, 33554431, 67108863, 134217727, 2097151, 270532607, 1073741823, 2147483647, 4294967295, 8589934591]
theorem spec_BagOk.tab5 : rtab .any (opsOf Try.f56 5) = spec_BagOk.T5 := by kernel_rfl
theorem spec_BagOk.bits5 : waitsOk spec_BagOk.T5.2 spec_BagOk.B5 = true := by kernel_rfl
set_option maxHeartbeats 8000000 in
set_option maxRecDepth 100000 in
theorem spec_BagOk.calls (k : Nat) (a0_0 : Int) (A0_1 : Option Addr) (c0_1 : Nat) (l0_1 : List (S74)) (r : Bool) (w : World) (hr0_1 : Kd.C k74 w A0_1 l0_1.length l0_1) (hc0_1 : l0_1.length ≤ c0_1) (h : spec_BagOk.f k a0_0 l0_1 = some r) :
  Calls Try.prog 56 #[.agg #[.int .i64 a0_0, .slice A0_1 l0_1.length c0_1]] w fun e w' => e = .returned (.bool r) ∧ Below w.heap.size w w' := by
 have hu40 := Try.underlying40
 have hu74 := Try.underlying74
 have HR0_1 := Aside0.mk hr0_1
 have HC0_1 := Aside0.mk hc0_1
 clear hr0_1 hc0_1
 have HB := Aside0.mk (Below.refl w.heap.size w)
 have H : (spec_BagOk.l0 k 0 a0_0 l0_1) = some r := h
 clear h
 have H' := Aside0.mk H
 clear H
 go_enter Try.func56, Try.ntmps56
 go_wp2_with (first | ((with_reducible refine gate_dst (N := 1) rfl ?_); (try (refine gate_guard (by rfl) ?_; dsimp only)); refine bx_ 1 #[.int .i64 a0_0, .slice A0_1 l0_1.length c0_1] 40 ?_; intro gb119 hg w2 hbox hb; have BK119 := Aside0.mk (hbox); have GW119 := gw_ hg; have GE119 := gw_ hg; replace HB := bs_ hb; clear hb hbox hg))
 go_loopg [3] k (fun kq v3 w' => ∃ (x3_1 : Int), v3 = .int .i64 x3_1 ∧ Aside0 (spec_BagOk.l0 kq x3_1 a0_0 l0_1 = some r) ∧ Aside0 (kq ≤ k) ∧ Aside0 (w'.heap[gb119]? = some (.cells #[.int .i64 a0_0, (.slice A0_1 l0_1.length c0_1)] 40 (0, 0))) ∧ Aside0 (Below w.heap.size w w'))
 case atStart => exact ⟨(0), rs_, H', ⟨Nat.le_refl _⟩, ⟨bkx_ BK119.out⟩, ⟨bb_⟩⟩
 case round =>
  clear H'
  try clear p2
  obtain ⟨x3_1, rfl, HA, HK1, BK119, HB⟩ := hrel
  cases gk with
  | zero => exact absurd HA.out (by simp [spec_BagOk.l0])
  | succ k1 =>
   have H := HA.out
   clear HA
   simp only [spec_BagOk.l0] at H
   by_cases c3 : x3_1 < (l0_1.length : Int)
   ·rw [if_pos c3] at H
    have c3b0 : decide (x3_1 < (l0_1.length : Int)) = true := decide_eq_true c3
    clear c3
    by_cases c4 : 0 ≤ x3_1
    ·rw [if_pos c4] at H
     have c4b0 : decide (0 ≤ x3_1) = true := decide_eq_true c4
     clear c4
     replace H := Option.bind_eq_some_iff.mp H
     obtain ⟨t123, A50, H⟩ := H
     replace H : (if t123 = true then (if ((rd_T74 l0_1 x3_1).f1) = 0 then (some false) else ((spec_l01In.f ((rd_T74 l0_1 x3_1).f1) (-1000000000) 1000000000).bind fun t124 => (if t124 = true then (if x3_1 > 0 then (if 0 ≤ (wrap64 (x3_1 - 1)) then (if (wrap64 (x3_1 - 1)) < (l0_1.length : Int) then ((spec_CompareRow.f k1 ((rd_T74 l0_1 (wrap64 (x3_1 - 1))).f0) ((rd_T74 l0_1 x3_1).f0)).bind fun t126 => (if t126 ≥ 0 then (some false) else (spec_BagOk.l0 k1 (wrap64 (x3_1 + 1)) a0_0 l0_1))) else (none)) else (none)) else (spec_BagOk.l0 k1 (wrap64 (x3_1 + 1)) a0_0 l0_1)) else (some false)))) else (some false)) = some r := H
     have A5 := Aside0.mk A50
     clear A50
     by_cases c6 : t123 = true
     ·subst c6
      have H1 : (if ((rd_T74 l0_1 x3_1).f1) = 0 then (some false) else ((spec_l01In.f ((rd_T74 l0_1 x3_1).f1) (-1000000000) 1000000000).bind fun t124 => (if t124 = true then (if x3_1 > 0 then (if 0 ≤ (wrap64 (x3_1 - 1)) then (if (wrap64 (x3_1 - 1)) < (l0_1.length : Int) then ((spec_CompareRow.f k1 ((rd_T74 l0_1 (wrap64 (x3_1 - 1))).f0) ((rd_T74 l0_1 x3_1).f0)).bind fun t126 => (if t126 ≥ 0 then (some false) else (spec_BagOk.l0 k1 (wrap64 (x3_1 + 1)) a0_0 l0_1))) else (none)) else (none)) else (spec_BagOk.l0 k1 (wrap64 (x3_1 + 1)) a0_0 l0_1)) else (some false)))) = some r := by rw [if_pos rfl] at H; exact H
      clear H
      have H := H1
      clear H1
      by_cases c7 : ((rd_T74 l0_1 x3_1).f1) = 0
      ·rw [if_pos c7] at H
       have c7b0 : (((rd_T74 l0_1 x3_1).f1) == 0) = true := beq_iff_eq.mpr c7
       have c7b1 : (((rd_T74 l0_1 x3_1).f1) != 0) = false := bne_eq_false_iff_eq.mpr c7
       clear c7
       obtain rfl := Option.some.inj H
       obtain ⟨hcz8_0, hcz8_1, hfz8_0, hfz8_1⟩ := b2_ BK119
       have p121 : 0 ≤ (x3_1 : Int) := od_
       have q121 : x3_1 < (l0_1.length : Int) := od_
       obtain ⟨ad121, A121_0, c121_0, e121, hx121_0, hx121_1, hl121_0, hi121_0⟩ := at_T74 HR0_1.out x3_1 p121 q121
       cases e121
       replace hx121_0 := hb_ HB hx121_0
       replace hx121_1 := hb_ HB hx121_1
       have HR121_0 := Aside0.mk hi121_0
       have HC121_0 := Aside0.mk hl121_0
       clear hi121_0 hl121_0
       replace p121 := eq_true p121
       replace q121 := eq_true q121
       try go_wp2_with (first | ((with_reducible refine gate_dst (N := 4) rfl ?_); (try (refine gate_guard (by rfl) ?_; dsimp only)); refine bx_ 4 #[.slice none 0 0, .int .i64 0] 74 ?_; intro gb122 hg w9 hbox hb; have BK122 := Aside0.mk (hbox); have GW122 := gw_ hg; have GE122 := gw_ hg; have NB119_122 := nl_ hg BK119; have NB122_119 := ng_ hg BK119; replace BK119 := bkb_ BK119 hb; replace HB := bs_ hb; clear hb hbox hg; have hnb10 := NB122_119.out; have hnc10 := NB119_122.out; obtain ⟨hcz11_0, hcz11_1, hfz11_0, hfz11_1⟩ := b2_ BK122))
       have n0_ : Aside0 (((w9.setCell ⟨gb122, 0, none⟩ (.slice A121_0 ((rd_T74 l0_1 x3_1).f0).length c121_0)).setCell ⟨gb122, 1, none⟩ (.int .i64 ((rd_T74 l0_1 x3_1).f1))).heap[gb119]? = some (.cells #[.int .i64 a0_0, .slice (some ad121) l0_1.length c0_1] 40 (0, 0))) := ⟨(bf2_ NB119_122 (bkx_ BK119.out))⟩
       have n1_ : Aside0 (((w9.setCell ⟨gb122, 0, none⟩ (.slice A121_0 ((rd_T74 l0_1 x3_1).f0).length c121_0)).setCell ⟨gb122, 1, none⟩ (.int .i64 ((rd_T74 l0_1 x3_1).f1))).heap[gb122]? = some (.cells #[.slice A121_0 ((rd_T74 l0_1 x3_1).f0).length c121_0, .int .i64 ((rd_T74 l0_1 x3_1).f1)] 74 (0, 0))) := ⟨(bp2_ (bkx_ BK122.out))⟩
       have n2_ : Aside0 (Below w.heap.size w ((w9.setCell ⟨gb122, 0, none⟩ (.slice A121_0 ((rd_T74 l0_1 x3_1).f0).length c121_0)).setCell ⟨gb122, 1, none⟩ (.int .i64 ((rd_T74 l0_1 x3_1).f1)))) := ⟨bb_⟩
       (try clear BK119)
       (try clear BK122)
       (try clear HB)
       generalize ((w9.setCell ⟨gb122, 0, none⟩ (.slice A121_0 ((rd_T74 l0_1 x3_1).f0).length c121_0)).setCell ⟨gb122, 1, none⟩ (.int .i64 ((rd_T74 l0_1 x3_1).f1))) = w12 at n0_ n1_ n2_ ⊢
       have BK119 := n0_
       have BK122 := n1_
       have HB := n2_
       clear n0_ n1_ n2_
       replace BK119 := Aside0.mk (blk_drew BK119.out)
       replace BK122 := Aside0.mk (blk_drew BK122.out)
       replace HB := Aside0.mk (below_drew1 HB.out)
       refine start_ (n := 34) (S := fun w' => w'.cell? ⟨gb122, 0, none⟩ = some (.slice A121_0 ((rd_T74 l0_1 x3_1).f0).length c121_0) ∧ w'.cell? ⟨gb122, 1, none⟩ = some (.int .i64 ((rd_T74 l0_1 x3_1).f1)) ∧ w'.cell? ⟨gb119, 0, none⟩ = some (.int .i64 a0_0) ∧ w'.cell? ⟨gb119, 1, none⟩ = some (.slice (some ad121) l0_1.length c0_1)) (ds := []) (tf 0 34) (by kernel_rfl) rfl rfl ⟨bc_ BK122 0, bc_ BK122 1, bc_ BK119 0, bc_ BK119 1⟩ (fun hHeld => ?_); refine with_tabW spec_BagOk.tab5 spec_BagOk.bits5 (fun HT_ HW_ => ?_)
       generalize w12.drew = w13 at BK119 BK122 HB hHeld ⊢
       refine pl_ ?_
       refine plx_ 2 #[true, false, true, false, false, false, false, false, false, false, false, false, false, false, false, false, false, false, false, false, false, false, false, false, false, false, false, false, false, false, false, false, false, false] ?_
       refine tlx_ 1 (tf 3 31) ?_
       refine tl_ ?_
       refine one_ (i := 4) (N := some 21) (tf 5 29) rfl rfl (one_of HT_.out (by kernel_rfl)) (by decide) (fun K hK => ?_)
       refine gs_ Try.func88 #[.slice A121_0 ((rd_T74 l0_1 x3_1).f0).length c121_0, .int .i64 a0_0] ?_
       with_reducible refine (spec_l02Row.calls k1 _ _ ((rd_T74 l0_1 x3_1).f0) a0_0 true _ ?side1 ?side2 A5.out).mono ?_
       (case side1 => exact ck_ (Kd.C_below HR121_0.out HB.out))
       (case side2 => exact HC121_0.out)
       rintro e w14 ⟨rfl, hb⟩
       refine ⟨_, rfl, ?_⟩
       replace BK119 := bkb_ BK119 hb
       replace BK122 := bkb_ BK122 hb
       replace HB := bs_ hb
       (try clear hb)
       (try clear hb2)
       (try clear hk)
       (try clear hi)
       refine hK.out _ _ ⟨bc_ BK122 0, bc_ BK122 1, bc_ BK119 0, bc_ BK119 1⟩ (fun hHeld => ?_)
       clear hK K
       refine nm_ ?_
       refine plx_ 5 (tf 6 28) ?_
       iterate 2 (refine pl_ ?_)
       refine tl_ ?_
       iterate 3 (refine pl_ ?_)
       iterate 4 (refine pd_ ?_)
       iterate 2 (refine pl_ ?_)
       iterate 15 (refine pd_ ?_)
       refine pl_ ?_
       refine done_ (done_of HT_.out (by kernel_rfl)) ?_
       try go_wp2
       go_ret
       exact ⟨er_, bb_⟩
      ·rw [if_neg c7] at H
       have c7b0 : (((rd_T74 l0_1 x3_1).f1) == 0) = false := beq_eq_false_iff_ne.mpr c7
       have c7b1 : (((rd_T74 l0_1 x3_1).f1) != 0) = true := bne_iff_ne.mpr c7
       replace H := Option.bind_eq_some_iff.mp H
       obtain ⟨t124, A150, H⟩ := H
       replace H : (if t124 = true then (if x3_1 > 0 then (if 0 ≤ (wrap64 (x3_1 - 1)) then (if (wrap64 (x3_1 - 1)) < (l0_1.length : Int) then ((spec_CompareRow.f k1 ((rd_T74 l0_1 (wrap64 (x3_1 - 1))).f0) ((rd_T74 l0_1 x3_1).f0)).bind fun t126 => (if t126 ≥ 0 then (some false) else (spec_BagOk.l0 k1 (wrap64 (x3_1 + 1)) a0_0 l0_1))) else (none)) else (none)) else (spec_BagOk.l0 k1 (wrap64 (x3_1 + 1)) a0_0 l0_1)) else (some false)) = some r := H
       have A15 := Aside0.mk A150
       clear A150
       by_cases c16 : t124 = true
       ·subst c16
        have H1 : (if x3_1 > 0 then (if 0 ≤ (wrap64 (x3_1 - 1)) then (if (wrap64 (x3_1 - 1)) < (l0_1.length : Int) then ((spec_CompareRow.f k1 ((rd_T74 l0_1 (wrap64 (x3_1 - 1))).f0) ((rd_T74 l0_1 x3_1).f0)).bind fun t126 => (if t126 ≥ 0 then (some false) else (spec_BagOk.l0 k1 (wrap64 (x3_1 + 1)) a0_0 l0_1))) else (none)) else (none)) else (spec_BagOk.l0 k1 (wrap64 (x3_1 + 1)) a0_0 l0_1)) = some r := by rw [if_pos rfl] at H; exact H
        clear H
        have H := H1
        clear H1
        by_cases c17 : x3_1 > 0
        ·rw [if_pos c17] at H
         have c17b0 : decide (0 < x3_1) = true := decide_eq_true c17
         clear c17
         obtain ⟨ji18, hji18⟩ : ∃ j_ : Int, (wrap64 (x3_1 - 1)) = j_ := ⟨_, rfl⟩
         replace H : (if 0 ≤ (ji18) then (if (ji18) < (l0_1.length : Int) then ((spec_CompareRow.f k1 ((rd_T74 l0_1 (ji18)).f0) ((rd_T74 l0_1 x3_1).f0)).bind fun t126 => (if t126 ≥ 0 then (some false) else (spec_BagOk.l0 k1 (wrap64 (x3_1 + 1)) a0_0 l0_1))) else (none)) else (none)) = some r := by first | (rw [hji18] at H; exact H) | (simp only [hji18] at H ⊢; exact H)
         (try rw [hji18] at A5)
         (try rw [hji18] at A15)
         have hji18w : (IntKind.i64.wrap (x3_1 - 1)) = ji18 := (i64_w _).trans hji18
         by_cases c19 : 0 ≤ (ji18)
         ·rw [if_pos c19] at H
          have c19b0 : decide (0 ≤ (ji18)) = true := decide_eq_true c19
          clear c19
          by_cases c20 : (ji18) < (l0_1.length : Int)
          ·rw [if_pos c20] at H
           have c20b0 : decide ((ji18) < (l0_1.length : Int)) = true := decide_eq_true c20
           clear c20
           replace H := Option.bind_eq_some_iff.mp H
           obtain ⟨t126, A210, H⟩ := H
           replace H : (if t126 ≥ 0 then (some false) else (spec_BagOk.l0 k1 (wrap64 (x3_1 + 1)) a0_0 l0_1)) = some r := H
           have A21 := Aside0.mk A210
           clear A210
           by_cases c22 : t126 ≥ 0
           ·rw [if_pos c22] at H
            have c22b0 : decide (0 ≤ t126) = true := decide_eq_true c22
            clear c22
            obtain rfl := Option.some.inj H
            obtain ⟨hcz23_0, hcz23_1, hfz23_0, hfz23_1⟩ := b2_ BK119
            have p121 : 0 ≤ (x3_1 : Int) := od_
            have q121 : x3_1 < (l0_1.length : Int) := od_
            obtain ⟨ad121, A121_0, c121_0, e121, hx121_0, hx121_1, hl121_0, hi121_0⟩ := at_T74 HR0_1.out x3_1 p121 q121
            cases e121
            replace hx121_0 := hb_ HB hx121_0
            replace hx121_1 := hb_ HB hx121_1
            have HR121_0 := Aside0.mk hi121_0
            have HC121_0 := Aside0.mk hl121_0
            clear hi121_0 hl121_0
            replace p121 := eq_true p121
            replace q121 := eq_true q121
            try go_wp2_with (first | ((with_reducible refine gate_dst (N := 4) rfl ?_); (try (refine gate_guard (by rfl) ?_; dsimp only)); refine bx_ 4 #[.slice none 0 0, .int .i64 0] 74 ?_; intro gb122 hg w24 hbox hb; have BK122 := Aside0.mk (hbox); have GW122 := gw_ hg; have GE122 := gw_ hg; have NB119_122 := nl_ hg BK119; have NB122_119 := ng_ hg BK119; replace BK119 := bkb_ BK119 hb; replace HB := bs_ hb; clear hb hbox hg; have hnb25 := NB122_119.out; have hnc25 := NB119_122.out; obtain ⟨hcz26_0, hcz26_1, hfz26_0, hfz26_1⟩ := b2_ BK122))
            have n0_ : Aside0 (((w24.setCell ⟨gb122, 0, none⟩ (.slice A121_0 ((rd_T74 l0_1 x3_1).f0).length c121_0)).setCell ⟨gb122, 1, none⟩ (.int .i64 ((rd_T74 l0_1 x3_1).f1))).heap[gb119]? = some (.cells #[.int .i64 a0_0, .slice (some ad121) l0_1.length c0_1] 40 (0, 0))) := ⟨(bf2_ NB119_122 (bkx_ BK119.out))⟩
            have n1_ : Aside0 (((w24.setCell ⟨gb122, 0, none⟩ (.slice A121_0 ((rd_T74 l0_1 x3_1).f0).length c121_0)).setCell ⟨gb122, 1, none⟩ (.int .i64 ((rd_T74 l0_1 x3_1).f1))).heap[gb122]? = some (.cells #[.slice A121_0 ((rd_T74 l0_1 x3_1).f0).length c121_0, .int .i64 ((rd_T74 l0_1 x3_1).f1)] 74 (0, 0))) := ⟨(bp2_ (bkx_ BK122.out))⟩
            have n2_ : Aside0 (Below w.heap.size w ((w24.setCell ⟨gb122, 0, none⟩ (.slice A121_0 ((rd_T74 l0_1 x3_1).f0).length c121_0)).setCell ⟨gb122, 1, none⟩ (.int .i64 ((rd_T74 l0_1 x3_1).f1)))) := ⟨bb_⟩
            (try clear BK119)
            (try clear BK122)
            (try clear HB)
            generalize ((w24.setCell ⟨gb122, 0, none⟩ (.slice A121_0 ((rd_T74 l0_1 x3_1).f0).length c121_0)).setCell ⟨gb122, 1, none⟩ (.int .i64 ((rd_T74 l0_1 x3_1).f1))) = w27 at n0_ n1_ n2_ ⊢
            have BK119 := n0_
            have BK122 := n1_
            have HB := n2_
            clear n0_ n1_ n2_
            replace BK119 := Aside0.mk (blk_drew BK119.out)
            replace BK122 := Aside0.mk (blk_drew BK122.out)
            replace HB := Aside0.mk (below_drew1 HB.out)
            have p125 : 0 ≤ ((ji18) : Int) := od_
            have q125 : (ji18) < (l0_1.length : Int) := od_
            obtain ⟨ad125, A125_0, c125_0, e125, hx125_0, hx125_1, hl125_0, hi125_0⟩ := at_T74 HR0_1.out (ji18) p125 q125
            have hw125_1 := hx125_1
            have hw125_0 := hx125_0
            obtain rfl : ad121 = ad125 := (by injection e125)
            replace hx125_0 := hb_ HB hx125_0
            replace hx125_1 := hb_ HB hx125_1
            have HR125_0 := Aside0.mk hi125_0
            have HC125_0 := Aside0.mk hl125_0
            clear hi125_0 hl125_0
            replace p125 := eq_true p125
            replace q125 := eq_true q125
            refine start_ (n := 34) (S := fun w' => w'.cell? ⟨gb122, 0, none⟩ = some (.slice A121_0 ((rd_T74 l0_1 x3_1).f0).length c121_0) ∧ w'.cell? ⟨gb122, 1, none⟩ = some (.int .i64 ((rd_T74 l0_1 x3_1).f1)) ∧ w'.cell? ⟨gb119, 0, none⟩ = some (.int .i64 a0_0) ∧ w'.cell? ⟨gb119, 1, none⟩ = some (.slice (some ad121) l0_1.length c0_1) ∧ w'.cell? (ad121.add (((ji18)).toNat * 2)) = some (.slice A125_0 ((rd_T74 l0_1 (ji18)).f0).length c125_0) ∧ w'.cell? ⟨(ad121.add (((ji18)).toNat * 2)).block, (ad121.add (((ji18)).toNat * 2)).off + 1, none⟩ = some (.int .i64 ((rd_T74 l0_1 (ji18)).f1))) (ds := []) (tf 0 34) (by kernel_rfl) rfl rfl ⟨bc_ BK122 0, bc_ BK122 1, bc_ BK119 0, bc_ BK119 1, (hb_ HB hw125_0), (hb_ HB hw125_1)⟩ (fun hHeld => ?_); refine with_tabW spec_BagOk.tab5 spec_BagOk.bits5 (fun HT_ HW_ => ?_)
            generalize w27.drew = w28 at BK119 BK122 HB HR125_0 hx125_0 hx125_1 hHeld ⊢
            refine pl_ ?_
            refine plx_ 2 #[true, false, true, false, false, false, false, false, false, false, false, false, false, false, false, false, false, false, false, false, false, false, false, false, false, false, false, false, false, false, false, false, false, false] ?_
            refine tlx_ 1 (tf 3 31) ?_
            refine tl_ ?_
            refine one_ (i := 4) (N := some 21) (tf 5 29) rfl rfl (one_of HT_.out (by kernel_rfl)) (by decide) (fun K hK => ?_)
            refine gs_ Try.func88 #[.slice A121_0 ((rd_T74 l0_1 x3_1).f0).length c121_0, .int .i64 a0_0] ?_
            with_reducible refine (spec_l02Row.calls k1 _ _ ((rd_T74 l0_1 x3_1).f0) a0_0 true _ ?side1 ?side2 A5.out).mono ?_
            (case side1 => exact ck_ (Kd.C_below HR121_0.out HB.out))
            (case side2 => exact HC121_0.out)
            rintro e w29 ⟨rfl, hb⟩
            refine ⟨_, rfl, ?_⟩
            replace BK119 := bkb_ BK119 hb
            replace BK122 := bkb_ BK122 hb
            replace HB := bs_ hb
            (try clear hb)
            (try clear hb2)
            (try clear hk)
            (try clear hi)
            refine hK.out _ _ ⟨bc_ BK122 0, bc_ BK122 1, bc_ BK119 0, bc_ BK119 1, (have h_ := hb_ HB hw125_0; h_), (have h_ := hb_ HB hw125_1; h_)⟩ (fun hHeld => ?_)
            clear hK K
            refine nm_ ?_
            refine plx_ 5 (tf 6 28) ?_
            iterate 2 (refine pl_ ?_)
            refine tl_ ?_
            iterate 4 (refine pl_ ?_)
            refine tl_ ?_
            refine one_ (i := 14) (N := some 31) (tf 15 19) rfl rfl (one_of HT_.out (by kernel_rfl)) (by decide) (fun K hK => ?_)
            refine gs_ Try.func89 #[.int .i64 ((rd_T74 l0_1 x3_1).f1), .int .i64 (-1000000000), .int .i64 1000000000] ?_
            with_reducible refine (spec_l01In.calls ((rd_T74 l0_1 x3_1).f1) (-1000000000) 1000000000 true _ A15.out).mono ?_
            rintro e w' ⟨rfl, ⟨nd, rfl⟩⟩
            refine ⟨_, rfl, ?_⟩
            refine hK.out _ _ ⟨bc_ BK122 0, bc_ BK122 1, bc_ BK119 0, bc_ BK119 1, (have h_ := hb_ HB hw125_0; h_), (have h_ := hb_ HB hw125_1; h_)⟩ (fun hHeld => ?_)
            clear hK K
            refine nm_ ?_
            refine plx_ 15 (tf 16 18) ?_
            iterate 6 (refine pl_ ?_)
            refine plx_ 23 #[true, true, true, true, true, true, true, true, true, true, true, true, true, true, true, true, true, true, true, true, true, true, false, true, false, false, false, false, false, false, false, false, false, false] ?_
            refine plx_ 24 #[true, true, true, true, true, true, true, true, true, true, true, true, true, true, true, true, true, true, true, true, true, true, false, true, true, false, false, false, false, false, false, false, false, false] ?_
            refine plx_ 28 #[true, true, true, true, true, true, true, true, true, true, true, true, true, true, true, true, true, true, true, true, true, true, false, true, true, false, false, false, true, false, false, false, false, false] ?_
            refine tlx_ 22 #[true, true, true, true, true, true, true, true, true, true, true, true, true, true, true, true, true, true, true, true, true, true, true, true, true, false, false, false, true, false, false, false, false, false] ?_
            refine plx_ 25 #[true, true, true, true, true, true, true, true, true, true, true, true, true, true, true, true, true, true, true, true, true, true, true, true, true, true, false, false, true, false, false, false, false, false] ?_
            refine plx_ 26 #[true, true, true, true, true, true, true, true, true, true, true, true, true, true, true, true, true, true, true, true, true, true, true, true, true, true, true, false, true, false, false, false, false, false] ?_
            refine tlx_ 27 (tf 29 5) ?_
            refine tl_ ?_
            refine one_ (i := 30) (N := some 47) (tf 31 3) rfl rfl (one_of HT_.out (by kernel_rfl)) (by decide) (fun K hK => ?_)
            refine goes_ Try.func75 (by kernel_rfl) rfl #[.slice A125_0 ((rd_T74 l0_1 (ji18)).f0).length c125_0, .slice A121_0 ((rd_T74 l0_1 x3_1).f0).length c121_0] (by rfl) rfl rfl (by (try simp only [List.map_toArray, List.map_cons, List.map_nil]); first | done | (simp only [hji18]; rfl) | rfl | (simp only [List.length_drop, List.length_take]; rfl)) ?_
            with_reducible refine (spec_CompareRow.calls k1 _ _ ((rd_T74 l0_1 (ji18)).f0) _ _ ((rd_T74 l0_1 x3_1).f0) t126 _ ?side1 ?side2 ?side3 ?side4 A21.out).mono ?_
            (case side1 => exact ck_ (Kd.C_below HR125_0.out bb_))
            (case side2 => exact HC125_0.out)
            (case side3 => exact ck_ (Kd.C_below HR121_0.out bb_))
            (case side4 => exact HC121_0.out)
            rintro e w30 ⟨rfl, hb⟩
            refine ⟨_, rfl, ?_⟩
            replace BK119 := bkb_ BK119 hb
            replace BK122 := bkb_ BK122 hb
            replace HB := bs_ hb
            (try clear hb)
            (try clear hb2)
            (try clear hk)
            (try clear hi)
            refine hK.out _ _ ⟨bc_ BK122 0, bc_ BK122 1, bc_ BK119 0, bc_ BK119 1, (have h_ := hb_ HB hw125_0; h_), (have h_ := hb_ HB hw125_1; h_)⟩ (fun hHeld => ?_)
            clear hK K
            refine nm_ ?_
            refine plx_ 31 (tf 32 2) ?_
            iterate 2 (refine pl_ ?_)
            refine done_ (done_of HT_.out (by kernel_rfl)) ?_
            try go_wp2
            go_ret
            exact ⟨by first | rfl | (simp [errW_none, errW_some] <;> rfl) | (simp only [← hji18]; first | rfl | (simp [errW_none, errW_some] <;> rfl)) | (simp [*, errW_none, errW_some] <;> rfl), by repeat (first | (with_reducible first | exact HB.out | apply below_alloc | apply pw_below_drewN | apply below_drew1 | refine below_set ?_ GE119.out | refine below_set ?_ GE122.out) | exact HB.out)⟩
           ·rw [if_neg c22] at H
            have c22b0 : decide (0 ≤ t126) = false := decide_eq_false c22
            clear c22
            have H' := Aside0.mk H
            clear H
            obtain ⟨hcz31_0, hcz31_1, hfz31_0, hfz31_1⟩ := b2_ BK119
            have p121 : 0 ≤ (x3_1 : Int) := od_
            have q121 : x3_1 < (l0_1.length : Int) := od_
            obtain ⟨ad121, A121_0, c121_0, e121, hx121_0, hx121_1, hl121_0, hi121_0⟩ := at_T74 HR0_1.out x3_1 p121 q121
            cases e121
            replace hx121_0 := hb_ HB hx121_0
            replace hx121_1 := hb_ HB hx121_1
            have HR121_0 := Aside0.mk hi121_0
            have HC121_0 := Aside0.mk hl121_0
            clear hi121_0 hl121_0
            replace p121 := eq_true p121
            replace q121 := eq_true q121
            try go_wp2_with (first | ((with_reducible refine gate_dst (N := 4) rfl ?_); (try (refine gate_guard (by rfl) ?_; dsimp only)); refine bx_ 4 #[.slice none 0 0, .int .i64 0] 74 ?_; intro gb122 hg w32 hbox hb; have BK122 := Aside0.mk (hbox); have GW122 := gw_ hg; have GE122 := gw_ hg; have NB119_122 := nl_ hg BK119; have NB122_119 := ng_ hg BK119; replace BK119 := bkb_ BK119 hb; replace HB := bs_ hb; clear hb hbox hg; have hnb33 := NB122_119.out; have hnc33 := NB119_122.out; obtain ⟨hcz34_0, hcz34_1, hfz34_0, hfz34_1⟩ := b2_ BK122))
            have n0_ : Aside0 (((w32.setCell ⟨gb122, 0, none⟩ (.slice A121_0 ((rd_T74 l0_1 x3_1).f0).length c121_0)).setCell ⟨gb122, 1, none⟩ (.int .i64 ((rd_T74 l0_1 x3_1).f1))).heap[gb119]? = some (.cells #[.int .i64 a0_0, .slice (some ad121) l0_1.length c0_1] 40 (0, 0))) := ⟨(bf2_ NB119_122 (bkx_ BK119.out))⟩
            have n1_ : Aside0 (((w32.setCell ⟨gb122, 0, none⟩ (.slice A121_0 ((rd_T74 l0_1 x3_1).f0).length c121_0)).setCell ⟨gb122, 1, none⟩ (.int .i64 ((rd_T74 l0_1 x3_1).f1))).heap[gb122]? = some (.cells #[.slice A121_0 ((rd_T74 l0_1 x3_1).f0).length c121_0, .int .i64 ((rd_T74 l0_1 x3_1).f1)] 74 (0, 0))) := ⟨(bp2_ (bkx_ BK122.out))⟩
            have n2_ : Aside0 (Below w.heap.size w ((w32.setCell ⟨gb122, 0, none⟩ (.slice A121_0 ((rd_T74 l0_1 x3_1).f0).length c121_0)).setCell ⟨gb122, 1, none⟩ (.int .i64 ((rd_T74 l0_1 x3_1).f1)))) := ⟨bb_⟩
            (try clear BK119)
            (try clear BK122)
            (try clear HB)
            generalize ((w32.setCell ⟨gb122, 0, none⟩ (.slice A121_0 ((rd_T74 l0_1 x3_1).f0).length c121_0)).setCell ⟨gb122, 1, none⟩ (.int .i64 ((rd_T74 l0_1 x3_1).f1))) = w35 at n0_ n1_ n2_ ⊢
            have BK119 := n0_
            have BK122 := n1_
            have HB := n2_
            clear n0_ n1_ n2_
            replace BK119 := Aside0.mk (blk_drew BK119.out)
            replace BK122 := Aside0.mk (blk_drew BK122.out)
            replace HB := Aside0.mk (below_drew1 HB.out)
            have p125 : 0 ≤ ((ji18) : Int) := od_
            have q125 : (ji18) < (l0_1.length : Int) := od_
            obtain ⟨ad125, A125_0, c125_0, e125, hx125_0, hx125_1, hl125_0, hi125_0⟩ := at_T74 HR0_1.out (ji18) p125 q125
            have hw125_1 := hx125_1
            have hw125_0 := hx125_0
            obtain rfl : ad121 = ad125 := (by injection e125)
            replace hx125_0 := hb_ HB hx125_0
            replace hx125_1 := hb_ HB hx125_1
            have HR125_0 := Aside0.mk hi125_0
            have HC125_0 := Aside0.mk hl125_0
            clear hi125_0 hl125_0
            replace p125 := eq_true p125
            replace q125 := eq_true q125
            refine start_ (n := 34) (S := fun w' => w'.cell? ⟨gb122, 0, none⟩ = some (.slice A121_0 ((rd_T74 l0_1 x3_1).f0).length c121_0) ∧ w'.cell? ⟨gb122, 1, none⟩ = some (.int .i64 ((rd_T74 l0_1 x3_1).f1)) ∧ w'.cell? ⟨gb119, 0, none⟩ = some (.int .i64 a0_0) ∧ w'.cell? ⟨gb119, 1, none⟩ = some (.slice (some ad121) l0_1.length c0_1) ∧ w'.cell? (ad121.add (((ji18)).toNat * 2)) = some (.slice A125_0 ((rd_T74 l0_1 (ji18)).f0).length c125_0) ∧ w'.cell? ⟨(ad121.add (((ji18)).toNat * 2)).block, (ad121.add (((ji18)).toNat * 2)).off + 1, none⟩ = some (.int .i64 ((rd_T74 l0_1 (ji18)).f1))) (ds := []) (tf 0 34) (by kernel_rfl) rfl rfl ⟨bc_ BK122 0, bc_ BK122 1, bc_ BK119 0, bc_ BK119 1, (hb_ HB hw125_0), (hb_ HB hw125_1)⟩ (fun hHeld => ?_); refine with_tabW spec_BagOk.tab5 spec_BagOk.bits5 (fun HT_ HW_ => ?_)
            generalize w35.drew = w36 at BK119 BK122 HB HR125_0 hx125_0 hx125_1 hHeld ⊢
            refine pl_ ?_
            refine plx_ 2 #[true, false, true, false, false, false, false, false, false, false, false, false, false, false, false, false, false, false, false, false, false, false, false, false, false, false, false, false, false, false, false, false, false, false] ?_
            refine tlx_ 1 (tf 3 31) ?_
            refine tl_ ?_
            refine one_ (i := 4) (N := some 21) (tf 5 29) rfl rfl (one_of HT_.out (by kernel_rfl)) (by decide) (fun K hK => ?_)
            refine gs_ Try.func88 #[.slice A121_0 ((rd_T74 l0_1 x3_1).f0).length c121_0, .int .i64 a0_0] ?_
            with_reducible refine (spec_l02Row.calls k1 _ _ ((rd_T74 l0_1 x3_1).f0) a0_0 true _ ?side1 ?side2 A5.out).mono ?_
            (case side1 => exact ck_ (Kd.C_below HR121_0.out HB.out))
            (case side2 => exact HC121_0.out)
            rintro e w37 ⟨rfl, hb⟩
            refine ⟨_, rfl, ?_⟩
            replace BK119 := bkb_ BK119 hb
            replace BK122 := bkb_ BK122 hb
            replace HB := bs_ hb
            (try clear hb)
            (try clear hb2)
            (try clear hk)
            (try clear hi)
            refine hK.out _ _ ⟨bc_ BK122 0, bc_ BK122 1, bc_ BK119 0, bc_ BK119 1, (have h_ := hb_ HB hw125_0; h_), (have h_ := hb_ HB hw125_1; h_)⟩ (fun hHeld => ?_)
            clear hK K
            refine nm_ ?_
            refine plx_ 5 (tf 6 28) ?_
            iterate 2 (refine pl_ ?_)
            refine tl_ ?_
            iterate 4 (refine pl_ ?_)
            refine tl_ ?_
            refine one_ (i := 14) (N := some 31) (tf 15 19) rfl rfl (one_of HT_.out (by kernel_rfl)) (by decide) (fun K hK => ?_)
            refine gs_ Try.func89 #[.int .i64 ((rd_T74 l0_1 x3_1).f1), .int .i64 (-1000000000), .int .i64 1000000000] ?_
            with_reducible refine (spec_l01In.calls ((rd_T74 l0_1 x3_1).f1) (-1000000000) 1000000000 true _ A15.out).mono ?_
            rintro e w' ⟨rfl, ⟨nd, rfl⟩⟩
            refine ⟨_, rfl, ?_⟩
            refine hK.out _ _ ⟨bc_ BK122 0, bc_ BK122 1, bc_ BK119 0, bc_ BK119 1, (have h_ := hb_ HB hw125_0; h_), (have h_ := hb_ HB hw125_1; h_)⟩ (fun hHeld => ?_)
            clear hK K
            refine nm_ ?_
            refine plx_ 15 (tf 16 18) ?_
            iterate 6 (refine pl_ ?_)
            refine plx_ 23 #[true, true, true, true, true, true, true, true, true, true, true, true, true, true, true, true, true, true, true, true, true, true, false, true, false, false, false, false, false, false, false, false, false, false] ?_
            refine plx_ 24 #[true, true, true, true, true, true, true, true, true, true, true, true, true, true, true, true, true, true, true, true, true, true, false, true, true, false, false, false, false, false, false, false, false, false] ?_
            refine plx_ 28 #[true, true, true, true, true, true, true, true, true, true, true, true, true, true, true, true, true, true, true, true, true, true, false, true, true, false, false, false, true, false, false, false, false, false] ?_
            refine tlx_ 22 #[true, true, true, true, true, true, true, true, true, true, true, true, true, true, true, true, true, true, true, true, true, true, true, true, true, false, false, false, true, false, false, false, false, false] ?_
            refine plx_ 25 #[true, true, true, true, true, true, true, true, true, true, true, true, true, true, true, true, true, true, true, true, true, true, true, true, true, true, false, false, true, false, false, false, false, false] ?_
            refine plx_ 26 #[true, true, true, true, true, true, true, true, true, true, true, true, true, true, true, true, true, true, true, true, true, true, true, true, true, true, true, false, true, false, false, false, false, false] ?_
            refine tlx_ 27 (tf 29 5) ?_
            refine tl_ ?_
            refine one_ (i := 30) (N := some 47) (tf 31 3) rfl rfl (one_of HT_.out (by kernel_rfl)) (by decide) (fun K hK => ?_)
            refine goes_ Try.func75 (by kernel_rfl) rfl #[.slice A125_0 ((rd_T74 l0_1 (ji18)).f0).length c125_0, .slice A121_0 ((rd_T74 l0_1 x3_1).f0).length c121_0] (by rfl) rfl rfl (by (try simp only [List.map_toArray, List.map_cons, List.map_nil]); first | done | (simp only [hji18]; rfl) | rfl | (simp only [List.length_drop, List.length_take]; rfl)) ?_
            with_reducible refine (spec_CompareRow.calls k1 _ _ ((rd_T74 l0_1 (ji18)).f0) _ _ ((rd_T74 l0_1 x3_1).f0) t126 _ ?side1 ?side2 ?side3 ?side4 A21.out).mono ?_
            (case side1 => exact ck_ (Kd.C_below HR125_0.out bb_))
            (case side2 => exact HC125_0.out)
            (case side3 => exact ck_ (Kd.C_below HR121_0.out bb_))
            (case side4 => exact HC121_0.out)
            rintro e w38 ⟨rfl, hb⟩
            refine ⟨_, rfl, ?_⟩
            replace BK119 := bkb_ BK119 hb
            replace BK122 := bkb_ BK122 hb
            replace HB := bs_ hb
            (try clear hb)
            (try clear hb2)
            (try clear hk)
            (try clear hi)
            refine hK.out _ _ ⟨bc_ BK122 0, bc_ BK122 1, bc_ BK119 0, bc_ BK119 1, (have h_ := hb_ HB hw125_0; h_), (have h_ := hb_ HB hw125_1; h_)⟩ (fun hHeld => ?_)
            clear hK K
            refine nm_ ?_
            refine plx_ 31 (tf 32 2) ?_
            iterate 2 (refine pl_ ?_)
            refine done_ (done_of HT_.out (by kernel_rfl)) ?_
            try go_wp2
            go_roundg k1
            case measure => have := HK1.out; omega
            case rel => exact ⟨(wrap64 (x3_1 + 1)), rs_, H', ⟨by have := HK1.out; omega⟩, ⟨bkx_ BK119.out⟩, ⟨bb_⟩⟩
          ·rw [if_neg c20] at H
           exact absurd H (by simp)
         ·rw [if_neg c19] at H
          exact absurd H (by simp)
        ·rw [if_neg c17] at H
         have c17b0 : decide (0 < x3_1) = false := decide_eq_false c17
         clear c17
         have H' := Aside0.mk H
         clear H
         obtain ⟨hcz39_0, hcz39_1, hfz39_0, hfz39_1⟩ := b2_ BK119
         have p121 : 0 ≤ (x3_1 : Int) := od_
         have q121 : x3_1 < (l0_1.length : Int) := od_
         obtain ⟨ad121, A121_0, c121_0, e121, hx121_0, hx121_1, hl121_0, hi121_0⟩ := at_T74 HR0_1.out x3_1 p121 q121
         cases e121
         replace hx121_0 := hb_ HB hx121_0
         replace hx121_1 := hb_ HB hx121_1
         have HR121_0 := Aside0.mk hi121_0
         have HC121_0 := Aside0.mk hl121_0
         clear hi121_0 hl121_0
         replace p121 := eq_true p121
         replace q121 := eq_true q121
         try go_wp2_with (first | ((with_reducible refine gate_dst (N := 4) rfl ?_); (try (refine gate_guard (by rfl) ?_; dsimp only)); refine bx_ 4 #[.slice none 0 0, .int .i64 0] 74 ?_; intro gb122 hg w40 hbox hb; have BK122 := Aside0.mk (hbox); have GW122 := gw_ hg; have GE122 := gw_ hg; have NB119_122 := nl_ hg BK119; have NB122_119 := ng_ hg BK119; replace BK119 := bkb_ BK119 hb; replace HB := bs_ hb; clear hb hbox hg; have hnb41 := NB122_119.out; have hnc41 := NB119_122.out; obtain ⟨hcz42_0, hcz42_1, hfz42_0, hfz42_1⟩ := b2_ BK122))
         have n0_ : Aside0 (((w40.setCell ⟨gb122, 0, none⟩ (.slice A121_0 ((rd_T74 l0_1 x3_1).f0).length c121_0)).setCell ⟨gb122, 1, none⟩ (.int .i64 ((rd_T74 l0_1 x3_1).f1))).heap[gb119]? = some (.cells #[.int .i64 a0_0, .slice (some ad121) l0_1.length c0_1] 40 (0, 0))) := ⟨(bf2_ NB119_122 (bkx_ BK119.out))⟩
         have n1_ : Aside0 (((w40.setCell ⟨gb122, 0, none⟩ (.slice A121_0 ((rd_T74 l0_1 x3_1).f0).length c121_0)).setCell ⟨gb122, 1, none⟩ (.int .i64 ((rd_T74 l0_1 x3_1).f1))).heap[gb122]? = some (.cells #[.slice A121_0 ((rd_T74 l0_1 x3_1).f0).length c121_0, .int .i64 ((rd_T74 l0_1 x3_1).f1)] 74 (0, 0))) := ⟨(bp2_ (bkx_ BK122.out))⟩
         have n2_ : Aside0 (Below w.heap.size w ((w40.setCell ⟨gb122, 0, none⟩ (.slice A121_0 ((rd_T74 l0_1 x3_1).f0).length c121_0)).setCell ⟨gb122, 1, none⟩ (.int .i64 ((rd_T74 l0_1 x3_1).f1)))) := ⟨bb_⟩
         (try clear BK119)
         (try clear BK122)
         (try clear HB)
         generalize ((w40.setCell ⟨gb122, 0, none⟩ (.slice A121_0 ((rd_T74 l0_1 x3_1).f0).length c121_0)).setCell ⟨gb122, 1, none⟩ (.int .i64 ((rd_T74 l0_1 x3_1).f1))) = w43 at n0_ n1_ n2_ ⊢
         have BK119 := n0_
         have BK122 := n1_
         have HB := n2_
         clear n0_ n1_ n2_
         replace BK119 := Aside0.mk (blk_drew BK119.out)
         replace BK122 := Aside0.mk (blk_drew BK122.out)
         replace HB := Aside0.mk (below_drew1 HB.out)
         refine start_ (n := 34) (S := fun w' => w'.cell? ⟨gb122, 0, none⟩ = some (.slice A121_0 ((rd_T74 l0_1 x3_1).f0).length c121_0) ∧ w'.cell? ⟨gb122, 1, none⟩ = some (.int .i64 ((rd_T74 l0_1 x3_1).f1)) ∧ w'.cell? ⟨gb119, 0, none⟩ = some (.int .i64 a0_0) ∧ w'.cell? ⟨gb119, 1, none⟩ = some (.slice (some ad121) l0_1.length c0_1)) (ds := []) (tf 0 34) (by kernel_rfl) rfl rfl ⟨bc_ BK122 0, bc_ BK122 1, bc_ BK119 0, bc_ BK119 1⟩ (fun hHeld => ?_); refine with_tabW spec_BagOk.tab5 spec_BagOk.bits5 (fun HT_ HW_ => ?_)
         generalize w43.drew = w44 at BK119 BK122 HB hHeld ⊢
         refine pl_ ?_
         refine plx_ 2 #[true, false, true, false, false, false, false, false, false, false, false, false, false, false, false, false, false, false, false, false, false, false, false, false, false, false, false, false, false, false, false, false, false, false] ?_
         refine tlx_ 1 (tf 3 31) ?_
         refine tl_ ?_
         refine one_ (i := 4) (N := some 21) (tf 5 29) rfl rfl (one_of HT_.out (by kernel_rfl)) (by decide) (fun K hK => ?_)
         refine gs_ Try.func88 #[.slice A121_0 ((rd_T74 l0_1 x3_1).f0).length c121_0, .int .i64 a0_0] ?_
         with_reducible refine (spec_l02Row.calls k1 _ _ ((rd_T74 l0_1 x3_1).f0) a0_0 true _ ?side1 ?side2 A5.out).mono ?_
         (case side1 => exact ck_ (Kd.C_below HR121_0.out HB.out))
         (case side2 => exact HC121_0.out)
         rintro e w45 ⟨rfl, hb⟩
         refine ⟨_, rfl, ?_⟩
         replace BK119 := bkb_ BK119 hb
         replace BK122 := bkb_ BK122 hb
         replace HB := bs_ hb
         (try clear hb)
         (try clear hb2)
         (try clear hk)
         (try clear hi)
         refine hK.out _ _ ⟨bc_ BK122 0, bc_ BK122 1, bc_ BK119 0, bc_ BK119 1⟩ (fun hHeld => ?_)
         clear hK K
         refine nm_ ?_
         refine plx_ 5 (tf 6 28) ?_
         iterate 2 (refine pl_ ?_)
         refine tl_ ?_
         iterate 4 (refine pl_ ?_)
         refine tl_ ?_
         refine one_ (i := 14) (N := some 31) (tf 15 19) rfl rfl (one_of HT_.out (by kernel_rfl)) (by decide) (fun K hK => ?_)
         refine gs_ Try.func89 #[.int .i64 ((rd_T74 l0_1 x3_1).f1), .int .i64 (-1000000000), .int .i64 1000000000] ?_
         with_reducible refine (spec_l01In.calls ((rd_T74 l0_1 x3_1).f1) (-1000000000) 1000000000 true _ A15.out).mono ?_
         rintro e w' ⟨rfl, ⟨nd, rfl⟩⟩
         refine ⟨_, rfl, ?_⟩
         refine hK.out _ _ ⟨bc_ BK122 0, bc_ BK122 1, bc_ BK119 0, bc_ BK119 1⟩ (fun hHeld => ?_)
         clear hK K
         refine nm_ ?_
         refine plx_ 15 (tf 16 18) ?_
         iterate 5 (refine pl_ ?_)
         iterate 11 (refine pd_ ?_)
         iterate 2 (refine pl_ ?_)
         refine done_ (done_of HT_.out (by kernel_rfl)) ?_
         try go_wp2
         go_roundg k1
         case measure => have := HK1.out; omega
         case rel => exact ⟨(wrap64 (x3_1 + 1)), rs_, H', ⟨by have := HK1.out; omega⟩, ⟨bkx_ BK119.out⟩, ⟨bb_⟩⟩
       ·replace c16 := Bool.eq_false_iff.mpr c16
        subst c16
        have H1 : (some false) = some r := by rw [if_neg (show ¬ (false = true) by decide)] at H; exact H
        clear H
        have H := H1
        clear H1
        obtain rfl := Option.some.inj H
        obtain ⟨hcz46_0, hcz46_1, hfz46_0, hfz46_1⟩ := b2_ BK119
        have p121 : 0 ≤ (x3_1 : Int) := od_
        have q121 : x3_1 < (l0_1.length : Int) := od_
        obtain ⟨ad121, A121_0, c121_0, e121, hx121_0, hx121_1, hl121_0, hi121_0⟩ := at_T74 HR0_1.out x3_1 p121 q121
        cases e121
        replace hx121_0 := hb_ HB hx121_0
        replace hx121_1 := hb_ HB hx121_1
        have HR121_0 := Aside0.mk hi121_0
        have HC121_0 := Aside0.mk hl121_0
        clear hi121_0 hl121_0
        replace p121 := eq_true p121
        replace q121 := eq_true q121
        try go_wp2_with (first | ((with_reducible refine gate_dst (N := 4) rfl ?_); (try (refine gate_guard (by rfl) ?_; dsimp only)); refine bx_ 4 #[.slice none 0 0, .int .i64 0] 74 ?_; intro gb122 hg w47 hbox hb; have BK122 := Aside0.mk (hbox); have GW122 := gw_ hg; have GE122 := gw_ hg; have NB119_122 := nl_ hg BK119; have NB122_119 := ng_ hg BK119; replace BK119 := bkb_ BK119 hb; replace HB := bs_ hb; clear hb hbox hg; have hnb48 := NB122_119.out; have hnc48 := NB119_122.out; obtain ⟨hcz49_0, hcz49_1, hfz49_0, hfz49_1⟩ := b2_ BK122))
        have n0_ : Aside0 (((w47.setCell ⟨gb122, 0, none⟩ (.slice A121_0 ((rd_T74 l0_1 x3_1).f0).length c121_0)).setCell ⟨gb122, 1, none⟩ (.int .i64 ((rd_T74 l0_1 x3_1).f1))).heap[gb119]? = some (.cells #[.int .i64 a0_0, .slice (some ad121) l0_1.length c0_1] 40 (0, 0))) := ⟨(bf2_ NB119_122 (bkx_ BK119.out))⟩
        have n1_ : Aside0 (((w47.setCell ⟨gb122, 0, none⟩ (.slice A121_0 ((rd_T74 l0_1 x3_1).f0).length c121_0)).setCell ⟨gb122, 1, none⟩ (.int .i64 ((rd_T74 l0_1 x3_1).f1))).heap[gb122]? = some (.cells #[.slice A121_0 ((rd_T74 l0_1 x3_1).f0).length c121_0, .int .i64 ((rd_T74 l0_1 x3_1).f1)] 74 (0, 0))) := ⟨(bp2_ (bkx_ BK122.out))⟩
        have n2_ : Aside0 (Below w.heap.size w ((w47.setCell ⟨gb122, 0, none⟩ (.slice A121_0 ((rd_T74 l0_1 x3_1).f0).length c121_0)).setCell ⟨gb122, 1, none⟩ (.int .i64 ((rd_T74 l0_1 x3_1).f1)))) := ⟨bb_⟩
        (try clear BK119)
        (try clear BK122)
        (try clear HB)
        generalize ((w47.setCell ⟨gb122, 0, none⟩ (.slice A121_0 ((rd_T74 l0_1 x3_1).f0).length c121_0)).setCell ⟨gb122, 1, none⟩ (.int .i64 ((rd_T74 l0_1 x3_1).f1))) = w50 at n0_ n1_ n2_ ⊢
        have BK119 := n0_
        have BK122 := n1_
        have HB := n2_
        clear n0_ n1_ n2_
        replace BK119 := Aside0.mk (blk_drew BK119.out)
        replace BK122 := Aside0.mk (blk_drew BK122.out)
        replace HB := Aside0.mk (below_drew1 HB.out)
        refine start_ (n := 34) (S := fun w' => w'.cell? ⟨gb122, 0, none⟩ = some (.slice A121_0 ((rd_T74 l0_1 x3_1).f0).length c121_0) ∧ w'.cell? ⟨gb122, 1, none⟩ = some (.int .i64 ((rd_T74 l0_1 x3_1).f1)) ∧ w'.cell? ⟨gb119, 0, none⟩ = some (.int .i64 a0_0) ∧ w'.cell? ⟨gb119, 1, none⟩ = some (.slice (some ad121) l0_1.length c0_1)) (ds := []) (tf 0 34) (by kernel_rfl) rfl rfl ⟨bc_ BK122 0, bc_ BK122 1, bc_ BK119 0, bc_ BK119 1⟩ (fun hHeld => ?_); refine with_tabW spec_BagOk.tab5 spec_BagOk.bits5 (fun HT_ HW_ => ?_)
        generalize w50.drew = w51 at BK119 BK122 HB hHeld ⊢
        refine pl_ ?_
        refine plx_ 2 #[true, false, true, false, false, false, false, false, false, false, false, false, false, false, false, false, false, false, false, false, false, false, false, false, false, false, false, false, false, false, false, false, false, false] ?_
        refine tlx_ 1 (tf 3 31) ?_
        refine tl_ ?_
        refine one_ (i := 4) (N := some 21) (tf 5 29) rfl rfl (one_of HT_.out (by kernel_rfl)) (by decide) (fun K hK => ?_)
        refine gs_ Try.func88 #[.slice A121_0 ((rd_T74 l0_1 x3_1).f0).length c121_0, .int .i64 a0_0] ?_
        with_reducible refine (spec_l02Row.calls k1 _ _ ((rd_T74 l0_1 x3_1).f0) a0_0 true _ ?side1 ?side2 A5.out).mono ?_
        (case side1 => exact ck_ (Kd.C_below HR121_0.out HB.out))
        (case side2 => exact HC121_0.out)
        rintro e w52 ⟨rfl, hb⟩
        refine ⟨_, rfl, ?_⟩
        replace BK119 := bkb_ BK119 hb
        replace BK122 := bkb_ BK122 hb
        replace HB := bs_ hb
        (try clear hb)
        (try clear hb2)
        (try clear hk)
        (try clear hi)
        refine hK.out _ _ ⟨bc_ BK122 0, bc_ BK122 1, bc_ BK119 0, bc_ BK119 1⟩ (fun hHeld => ?_)
        clear hK K
        refine nm_ ?_
        refine plx_ 5 (tf 6 28) ?_
        iterate 2 (refine pl_ ?_)
        refine tl_ ?_
        iterate 4 (refine pl_ ?_)
        refine tl_ ?_
        refine one_ (i := 14) (N := some 31) (tf 15 19) rfl rfl (one_of HT_.out (by kernel_rfl)) (by decide) (fun K hK => ?_)
        refine gs_ Try.func89 #[.int .i64 ((rd_T74 l0_1 x3_1).f1), .int .i64 (-1000000000), .int .i64 1000000000] ?_
        with_reducible refine (spec_l01In.calls ((rd_T74 l0_1 x3_1).f1) (-1000000000) 1000000000 false _ A15.out).mono ?_
        rintro e w' ⟨rfl, ⟨nd, rfl⟩⟩
        refine ⟨_, rfl, ?_⟩
        refine hK.out _ _ ⟨bc_ BK122 0, bc_ BK122 1, bc_ BK119 0, bc_ BK119 1⟩ (fun hHeld => ?_)
        clear hK K
        refine nm_ ?_
        refine plx_ 15 (tf 16 18) ?_
        iterate 2 (refine pl_ ?_)
        iterate 15 (refine pd_ ?_)
        refine pl_ ?_
        refine done_ (done_of HT_.out (by kernel_rfl)) ?_
        try go_wp2
        go_ret
        exact ⟨er_, bb_⟩
     ·replace c6 := Bool.eq_false_iff.mpr c6
      subst c6
      have H1 : (some false) = some r := by rw [if_neg (show ¬ (false = true) by decide)] at H; exact H
      clear H
      have H := H1
      clear H1
      obtain rfl := Option.some.inj H
      obtain ⟨hcz53_0, hcz53_1, hfz53_0, hfz53_1⟩ := b2_ BK119
      have p121 : 0 ≤ (x3_1 : Int) := od_
      have q121 : x3_1 < (l0_1.length : Int) := od_
      obtain ⟨ad121, A121_0, c121_0, e121, hx121_0, hx121_1, hl121_0, hi121_0⟩ := at_T74 HR0_1.out x3_1 p121 q121
      cases e121
      replace hx121_0 := hb_ HB hx121_0
      replace hx121_1 := hb_ HB hx121_1
      have HR121_0 := Aside0.mk hi121_0
      have HC121_0 := Aside0.mk hl121_0
      clear hi121_0 hl121_0
      replace p121 := eq_true p121
      replace q121 := eq_true q121
      try go_wp2_with (first | ((with_reducible refine gate_dst (N := 4) rfl ?_); (try (refine gate_guard (by rfl) ?_; dsimp only)); refine bx_ 4 #[.slice none 0 0, .int .i64 0] 74 ?_; intro gb122 hg w54 hbox hb; have BK122 := Aside0.mk (hbox); have GW122 := gw_ hg; have GE122 := gw_ hg; have NB119_122 := nl_ hg BK119; have NB122_119 := ng_ hg BK119; replace BK119 := bkb_ BK119 hb; replace HB := bs_ hb; clear hb hbox hg; have hnb55 := NB122_119.out; have hnc55 := NB119_122.out; obtain ⟨hcz56_0, hcz56_1, hfz56_0, hfz56_1⟩ := b2_ BK122))
      have n0_ : Aside0 (((w54.setCell ⟨gb122, 0, none⟩ (.slice A121_0 ((rd_T74 l0_1 x3_1).f0).length c121_0)).setCell ⟨gb122, 1, none⟩ (.int .i64 ((rd_T74 l0_1 x3_1).f1))).heap[gb119]? = some (.cells #[.int .i64 a0_0, .slice (some ad121) l0_1.length c0_1] 40 (0, 0))) := ⟨(bf2_ NB119_122 (bkx_ BK119.out))⟩
      have n1_ : Aside0 (((w54.setCell ⟨gb122, 0, none⟩ (.slice A121_0 ((rd_T74 l0_1 x3_1).f0).length c121_0)).setCell ⟨gb122, 1, none⟩ (.int .i64 ((rd_T74 l0_1 x3_1).f1))).heap[gb122]? = some (.cells #[.slice A121_0 ((rd_T74 l0_1 x3_1).f0).length c121_0, .int .i64 ((rd_T74 l0_1 x3_1).f1)] 74 (0, 0))) := ⟨(bp2_ (bkx_ BK122.out))⟩
      have n2_ : Aside0 (Below w.heap.size w ((w54.setCell ⟨gb122, 0, none⟩ (.slice A121_0 ((rd_T74 l0_1 x3_1).f0).length c121_0)).setCell ⟨gb122, 1, none⟩ (.int .i64 ((rd_T74 l0_1 x3_1).f1)))) := ⟨bb_⟩
      (try clear BK119)
      (try clear BK122)
      (try clear HB)
      generalize ((w54.setCell ⟨gb122, 0, none⟩ (.slice A121_0 ((rd_T74 l0_1 x3_1).f0).length c121_0)).setCell ⟨gb122, 1, none⟩ (.int .i64 ((rd_T74 l0_1 x3_1).f1))) = w57 at n0_ n1_ n2_ ⊢
      have BK119 := n0_
      have BK122 := n1_
      have HB := n2_
      clear n0_ n1_ n2_
      replace BK119 := Aside0.mk (blk_drew BK119.out)
      replace BK122 := Aside0.mk (blk_drew BK122.out)
      replace HB := Aside0.mk (below_drew1 HB.out)
      refine start_ (n := 34) (S := fun w' => w'.cell? ⟨gb122, 0, none⟩ = some (.slice A121_0 ((rd_T74 l0_1 x3_1).f0).length c121_0) ∧ w'.cell? ⟨gb122, 1, none⟩ = some (.int .i64 ((rd_T74 l0_1 x3_1).f1)) ∧ w'.cell? ⟨gb119, 0, none⟩ = some (.int .i64 a0_0) ∧ w'.cell? ⟨gb119, 1, none⟩ = some (.slice (some ad121) l0_1.length c0_1)) (ds := []) (tf 0 34) (by kernel_rfl) rfl rfl ⟨bc_ BK122 0, bc_ BK122 1, bc_ BK119 0, bc_ BK119 1⟩ (fun hHeld => ?_); refine with_tabW spec_BagOk.tab5 spec_BagOk.bits5 (fun HT_ HW_ => ?_)
      generalize w57.drew = w58 at BK119 BK122 HB hHeld ⊢
      refine pl_ ?_
      refine plx_ 2 #[true, false, true, false, false, false, false, false, false, false, false, false, false, false, false, false, false, false, false, false, false, false, false, false, false, false, false, false, false, false, false, false, false, false] ?_
      refine tlx_ 1 (tf 3 31) ?_
      refine tl_ ?_
      refine one_ (i := 4) (N := some 21) (tf 5 29) rfl rfl (one_of HT_.out (by kernel_rfl)) (by decide) (fun K hK => ?_)
      refine gs_ Try.func88 #[.slice A121_0 ((rd_T74 l0_1 x3_1).f0).length c121_0, .int .i64 a0_0] ?_
      with_reducible refine (spec_l02Row.calls k1 _ _ ((rd_T74 l0_1 x3_1).f0) a0_0 false _ ?side1 ?side2 A5.out).mono ?_
      (case side1 => exact ck_ (Kd.C_below HR121_0.out HB.out))
      (case side2 => exact HC121_0.out)
      rintro e w59 ⟨rfl, hb⟩
      refine ⟨_, rfl, ?_⟩
      replace BK119 := bkb_ BK119 hb
      replace BK122 := bkb_ BK122 hb
      replace HB := bs_ hb
      (try clear hb)
      (try clear hb2)
      (try clear hk)
      (try clear hi)
      refine hK.out _ _ ⟨bc_ BK122 0, bc_ BK122 1, bc_ BK119 0, bc_ BK119 1⟩ (fun hHeld => ?_)
      clear hK K
      refine nm_ ?_
      refine plx_ 5 (tf 6 28) ?_
      refine pl_ ?_
      iterate 3 (refine pd_ ?_)
      iterate 2 (refine pl_ ?_)
      iterate 4 (refine pd_ ?_)
      iterate 2 (refine pl_ ?_)
      iterate 15 (refine pd_ ?_)
      refine pl_ ?_
      refine done_ (done_of HT_.out (by kernel_rfl)) ?_
      try go_wp2
      go_ret
      exact ⟨er_, bb_⟩
    ·rw [if_neg c4] at H
     exact absurd H (by simp)
   ·rw [if_neg c3] at H
    have c3b0 : decide (x3_1 < (l0_1.length : Int)) = false := decide_eq_false c3
    clear c3
    replace H := Option.bind_eq_some_iff.mp H
    obtain ⟨t120, A600, H⟩ := H
    replace H : (if t120 = true then (some (decide ((l0_1.length : Int) ≤ 400))) else (some false)) = some r := H
    have A60 := Aside0.mk A600
    clear A600
    by_cases c61 : t120 = true
    ·subst c61
     have H1 : (some (decide ((l0_1.length : Int) ≤ 400))) = some r := by rw [if_pos rfl] at H; exact H
     clear H
     have H := H1
     clear H1
     obtain rfl := Option.some.inj H
     obtain ⟨hcz62_0, hcz62_1, hfz62_0, hfz62_1⟩ := b2_ BK119
     go_wp2_with (first | ((with_reducible refine gate_callee (f := 89) rfl ?_); refine gsL_ (some 53) Try.func89 #[.int .i64 a0_0, .int .i64 0, .int .i64 12] ?_; (with_reducible refine (spec_l01In.calls a0_0 0 12 true _ A60.out).mono ?_); rintro e w' ⟨rfl, ⟨nd, rfl⟩⟩; refine ⟨_, rfl, ?_⟩))
     go_ret
     exact ⟨er_, bb_⟩
    ·replace c61 := Bool.eq_false_iff.mpr c61
     subst c61
     have H1 : (some false) = some r := by rw [if_neg (show ¬ (false = true) by decide)] at H; exact H
     clear H
     have H := H1
     clear H1
     obtain rfl := Option.some.inj H
     obtain ⟨hcz63_0, hcz63_1, hfz63_0, hfz63_1⟩ := b2_ BK119
     go_wp2_with (first | ((with_reducible refine gate_callee (f := 89) rfl ?_); refine gsL_ (some 53) Try.func89 #[.int .i64 a0_0, .int .i64 0, .int .i64 12] ?_; (with_reducible refine (spec_l01In.calls a0_0 0 12 false _ A60.out).mono ?_); rintro e w' ⟨rfl, ⟨nd, rfl⟩⟩; refine ⟨_, rfl, ?_⟩))
     go_ret
     exact ⟨er_, bb_⟩

end Go.Proofs.Ytapgfamppnhnmaa.PFnExactBagOf
