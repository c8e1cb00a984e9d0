-- WRITTEN BY xprint.py, a program of this session over the kit's printer: by nobody's hand
-- PRESSED
import Derived.Test.YtapgfamppnhnmaaPress
import Derived.Test.YtapgfamppnhnmaaPFnExactBagOfx0
import Derived.Test.YtapgfamppnhnmaaPFnExactBagOfx6
import Derived.Test.YtapgfamppnhnmaaPFnExactBagOfx8
namespace Go.Proofs.Ytapgfamppnhnmaa.PFnExactBagOf
open Go.RowKit Go.Proofs.YtapgfamppnhnmaaW.PrintWords Go.Proofs.YtapgfamppnhnmaaW.PrintLast Go.Proofs.YtapgfamppnhnmaaW.PrintMore
attribute [local go_sem] max2_int min2_int max_two min_two max_three min_three max_four min_four   -- for this text's walks alone
set_option linter.unusedVariables false
set_option linter.unusedSimpArgs false

/-! ### impl_BagOk: function 47 -/
mutual
def impl_BagOk.j0 : Nat → Bool → Int → List (S74) → Option (Bool)
 | 0, _, _, _ => none
 | k + 1, x14, x208000, x208001 => if x14 = true then (some false) else (impl_BagOk.l0 k x208001 (x208001.length : Int) 0 x208000 x208001)
def impl_BagOk.l0 : Nat → List (S74) → Int → Int → Int → List (S74) → Option (Bool)
 | 0, _, _, _, _, _ => none
 | k + 1, x16, x17, x18, x208000, x208001 => if x18 < x17 then (if 0 ≤ x18 then (if x18 < (x16.length : Int) then ((impl_isRow.f ((rd_T74 x16 x18).f0) x208000).bind fun t211 => (if t211 = true then (if ((rd_T74 x16 x18).f1) = 0 then (some false) else ((impl_within.f ((rd_T74 x16 x18).f1) (-1000000000) 1000000000).bind fun t212 => (if t212 = true then (if x18 > 0 then (if 0 ≤ (wrap64 (x18 - 1)) then (if (wrap64 (x18 - 1)) < (x208001.length : Int) then ((impl_CompareRow.f k ((rd_T74 x208001 (wrap64 (x18 - 1))).f0) ((rd_T74 x16 x18).f0)).bind fun t214 => (if t214 ≥ 0 then (some false) else (impl_BagOk.l0 k x16 x17 (wrap64 (x18 + 1)) x208000 x208001))) else (none)) else (none)) else (impl_BagOk.l0 k x16 x17 (wrap64 (x18 + 1)) x208000 x208001)) else (some false)))) else (some false))) else (none)) else (none)) else (some true)
end
def impl_BagOk.f (k : Nat) (a0_0 : Int) (l0_1 : List (S74)) : Option (Bool) := (impl_within.f a0_0 0 12).bind fun t208 => (if t208 = true then (impl_BagOk.j0 k (decide ((l0_1.length : Int) > 400)) a0_0 l0_1) else (impl_BagOk.j0 k true a0_0 l0_1))
def impl_BagOk.T6 : Bool × List (List Nat × List Nat) := (true, [([], []), ([0], [0]), ([], []), ([2], [2]), ([1, 3], [1, 3]), ([4], [4]), ([5, 4], [5]), ([6], [6]), ([7, 6], [6, 7]), ([8, 6], [6, 8]), ([6, 9], [6, 9]), ([10, 6], [10]), ([11], [11]), ([12, 11], [11, 12]), ([13, 11, 11], [11, 13]), ([14, 11], [11, 14]), ([11, 15], [11, 15]), ([16, 14], [16]), ([17], [17]), ([18, 17], [17, 18]), ([19, 17, 17], [17, 19]), ([20], [20]), ([21, 20], [20, 21]), ([20], [20]), ([23, 20], [20, 23]), ([22, 24, 20], [20, 22, 24]), ([25, 20], [20, 25]), ([26, 20], [20, 26]), ([20], [20]), ([28, 20], [20, 28]), ([27, 29, 20, 20], [20, 27, 29]), ([30, 20], [20, 30]), ([20, 31, 17], [17, 20, 31]), ([17, 32], [17, 32])])
def impl_BagOk.B6 : List Nat := [0, 1, 0, 4, 15, 31, 63, 127, 255, 511, 1023, 2047, 4095, 8191, 16383, 32767, 65535, 131071, 262143, 524287, 1048575, 2097151, 4194303, 2097151, 10485759, 33554431, 67108863, 134217727, 2097151, 270532607, 1073741823, 2147483647, 4294967295, 8589934591]
theorem impl_BagOk.tab6 : rtab .any (opsOf Try.f47 6) = impl_BagOk.T6 := by kernel_rfl
theorem impl_BagOk.bits6 : waitsOk impl_BagOk.T6.2 impl_BagOk.B6 = true := by kernel_rfl
set_option maxHeartbeats 8000000 in
set_option maxRecDepth 100000 in
theorem impl_BagOk.calls (k : Nat) (a0_0 : Int) (A0_1 : Option Addr) (c0_1 : Nat) (l0_1 : List (S74)) (r : Bool) (w : World) (hr0_1 : Kd.C k74 w A0_1 l0_1.length l0_1) (hc0_1 : l0_1.length ≤ c0_1) (h : impl_BagOk.f k a0_0 l0_1 = some r) :
  Calls Try.prog 47 #[.agg #[.int .i64 a0_0, .slice A0_1 l0_1.length c0_1]] w fun e w' => e = .returned (.bool r) ∧ Below w.heap.size w w' := by
 have hu40 := Try.underlying40
 have hu74 := Try.underlying74
 have HR0_1 := Aside0.mk hr0_1
 have HC0_1 := Aside0.mk hc0_1
 clear hr0_1 hc0_1
 have HB := Aside0.mk (Below.refl w.heap.size w)
 have H : ((impl_within.f a0_0 0 12).bind fun t208 => (if t208 = true then (impl_BagOk.j0 k (decide ((l0_1.length : Int) > 400)) a0_0 l0_1) else (impl_BagOk.j0 k true a0_0 l0_1))) = some r := h
 clear h
 have HC2 := Aside0.mk H
 clear H
 go_enter Try.func47, Try.ntmps47
 go_upto_region 1 with (first | ((with_reducible refine gate_dst (N := 1) rfl ?_); (try (refine gate_guard (by rfl) ?_; dsimp only)); refine bx_ 1 #[.int .i64 a0_0, .slice A0_1 l0_1.length c0_1] 40 ?_; intro gb207 hg w3 hbox hb; have BK207 := Aside0.mk (hbox); have GW207 := gw_ hg; have GE207 := gw_ hg; replace HB := bs_ hb; clear hb hbox hg))
 (try simp only [Act.put, List.setIfInBounds_toArray, List.set_cons_zero, List.set_cons_succ])
 go_cut [14] (fun v14 wc => ∃ (kq : Nat) (x14_1 : Bool), v14 = .bool x14_1 ∧ Aside0 (impl_BagOk.j0 kq x14_1 a0_0 l0_1 = some r) ∧ Aside0 (kq ≤ k) ∧ Aside0 (wc.heap[gb207]? = some (.cells #[.int .i64 a0_0, (.slice A0_1 l0_1.length c0_1)] 40 (0, 0))) ∧ Aside0 (Below w.heap.size w wc))
 case first =>
  have H := HC2.out
  clear HC2
  replace H := Option.bind_eq_some_iff.mp H
  obtain ⟨t208, A40, H⟩ := H
  replace H : (if t208 = true then (impl_BagOk.j0 k (decide ((l0_1.length : Int) > 400)) a0_0 l0_1) else (impl_BagOk.j0 k true a0_0 l0_1)) = some r := H
  have A4 := Aside0.mk A40
  clear A40
  by_cases c5 : t208 = true
  ·subst c5
   have H1 : (impl_BagOk.j0 k (decide ((l0_1.length : Int) > 400)) a0_0 l0_1) = some r := by rw [if_pos rfl] at H; exact H
   clear H
   have H := H1
   clear H1
   have H' := Aside0.mk H
   clear H
   obtain ⟨hcz6_0, hcz6_1, hfz6_0, hfz6_1⟩ := b2_ BK207
   go_wp2_with (first | ((with_reducible refine gate_callee (f := 82) rfl ?_); refine gsL_ (some 7) Try.func82 #[.int .i64 a0_0, .int .i64 0, .int .i64 12] ?_; (with_reducible refine (impl_within.calls a0_0 0 12 true _ A4.out).mono ?_); rintro e w' ⟨rfl, ⟨nd, rfl⟩⟩; refine ⟨_, rfl, ?_⟩))
   go_meet
   case rel => exact ⟨_, (decide ((l0_1.length : Int) > 400)), rs_, H', ⟨by first | omega | exact Nat.le_refl _⟩, ⟨bkx_ BK207.out⟩, ⟨bb_⟩⟩
  ·replace c5 := Bool.eq_false_iff.mpr c5
   subst c5
   have H1 : (impl_BagOk.j0 k true a0_0 l0_1) = some r := by rw [if_neg (show ¬ (false = true) by decide)] at H; exact H
   clear H
   have H := H1
   clear H1
   have H' := Aside0.mk H
   clear H
   obtain ⟨hcz7_0, hcz7_1, hfz7_0, hfz7_1⟩ := b2_ BK207
   go_wp2_with (first | ((with_reducible refine gate_callee (f := 82) rfl ?_); refine gsL_ (some 7) Try.func82 #[.int .i64 a0_0, .int .i64 0, .int .i64 12] ?_; (with_reducible refine (impl_within.calls a0_0 0 12 false _ A4.out).mono ?_); rintro e w' ⟨rfl, ⟨nd, rfl⟩⟩; refine ⟨_, rfl, ?_⟩))
   go_meet
   case rel => exact ⟨_, (true), rs_, H', ⟨by first | omega | exact Nat.le_refl _⟩, ⟨bkx_ BK207.out⟩, ⟨bb_⟩⟩
 case rest =>
  clear HC2
  try clear p2
  try clear c4
  try clear c5
  try clear hcz6_0
  try clear hcz6_1
  try clear hcz7_0
  try clear hcz7_1
  try clear hfz6_0
  try clear hfz6_1
  try clear hfz7_0
  try clear hfz7_1
  obtain ⟨kq, x14_1, rfl, HA, HJ1, BK207, HB⟩ := hcut
  cases kq with
  | zero => exact absurd HA.out (by simp [impl_BagOk.j0])
  | succ kj1 =>
   have H := HA.out
   clear HA
   simp only [impl_BagOk.j0] at H
   by_cases c8 : x14_1 = true
   ·subst c8
    have H1 : (some false) = some r := by rw [if_pos rfl] at H; exact H
    clear H
    have H := H1
    clear H1
    obtain rfl := Option.some.inj H
    go_wp2
    go_ret
    exact ⟨er_, bb_⟩
   ·replace c8 := Bool.eq_false_iff.mpr c8
    subst c8
    have H1 : (impl_BagOk.l0 kj1 l0_1 (l0_1.length : Int) 0 a0_0 l0_1) = some r := by rw [if_neg (show ¬ (false = true) by decide)] at H; exact H
    clear H
    have H := H1
    clear H1
    have H' := Aside0.mk H
    clear H
    obtain ⟨hcz9_0, hcz9_1, hfz9_0, hfz9_1⟩ := b2_ BK207
    go_wp2
    go_loopg [18] kj1 (fun kq v18 w' => ∃ (x18_2 : Int), v18 = .int .i64 x18_2 ∧ Aside0 (impl_BagOk.l0 kq l0_1 (l0_1.length : Int) x18_2 a0_0 l0_1 = some r) ∧ Aside0 (kq ≤ kj1) ∧ Aside0 (w'.heap[gb207]? = some (.cells #[.int .i64 a0_0, (.slice A0_1 l0_1.length c0_1)] 40 (0, 0))) ∧ Aside0 (Below w.heap.size w w'))
    case atStart => exact ⟨(0), rs_, H', ⟨Nat.le_refl _⟩, ⟨bkx_ BK207.out⟩, ⟨bb_⟩⟩
    case round =>
     clear H'
     try clear p2
     try clear c4
     try clear c5
     try clear c8
     try clear hcz6_0
     try clear hcz6_1
     try clear hcz7_0
     try clear hcz7_1
     try clear hcz9_0
     try clear hcz9_1
     try clear hfz6_0
     try clear hfz6_1
     try clear hfz7_0
     try clear hfz7_1
     try clear hfz9_0
     try clear hfz9_1
     try clear p2
     obtain ⟨x18_2, rfl, HA, HK2, BK207, HB⟩ := hrel
     cases gk with
     | zero => exact absurd HA.out (by simp [impl_BagOk.l0])
     | succ k2 =>
      have H := HA.out
      clear HA
      simp only [impl_BagOk.l0] at H
      by_cases c10 : x18_2 < (l0_1.length : Int)
      ·rw [if_pos c10] at H
       have c10b0 : decide (x18_2 < (l0_1.length : Int)) = true := decide_eq_true c10
       clear c10
       by_cases c11 : 0 ≤ x18_2
       ·rw [if_pos c11] at H
        have c11b0 : decide (0 ≤ x18_2) = true := decide_eq_true c11
        clear c11
        by_cases c12 : x18_2 < (l0_1.length : Int)
        ·rw [if_pos c12] at H
         have c12b0 : decide (x18_2 < (l0_1.length : Int)) = true := decide_eq_true c12
         clear c12
         replace H := Option.bind_eq_some_iff.mp H
         obtain ⟨t211, A130, H⟩ := H
         replace H : (if t211 = true then (if ((rd_T74 l0_1 x18_2).f1) = 0 then (some false) else ((impl_within.f ((rd_T74 l0_1 x18_2).f1) (-1000000000) 1000000000).bind fun t212 => (if t212 = true then (if x18_2 > 0 then (if 0 ≤ (wrap64 (x18_2 - 1)) then (if (wrap64 (x18_2 - 1)) < (l0_1.length : Int) then ((impl_CompareRow.f k2 ((rd_T74 l0_1 (wrap64 (x18_2 - 1))).f0) ((rd_T74 l0_1 x18_2).f0)).bind fun t214 => (if t214 ≥ 0 then (some false) else (impl_BagOk.l0 k2 l0_1 (l0_1.length : Int) (wrap64 (x18_2 + 1)) a0_0 l0_1))) else (none)) else (none)) else (impl_BagOk.l0 k2 l0_1 (l0_1.length : Int) (wrap64 (x18_2 + 1)) a0_0 l0_1)) else (some false)))) else (some false)) = some r := H
         have A13 := Aside0.mk A130
         clear A130
         by_cases c14 : t211 = true
         ·subst c14
          have H1 : (if ((rd_T74 l0_1 x18_2).f1) = 0 then (some false) else ((impl_within.f ((rd_T74 l0_1 x18_2).f1) (-1000000000) 1000000000).bind fun t212 => (if t212 = true then (if x18_2 > 0 then (if 0 ≤ (wrap64 (x18_2 - 1)) then (if (wrap64 (x18_2 - 1)) < (l0_1.length : Int) then ((impl_CompareRow.f k2 ((rd_T74 l0_1 (wrap64 (x18_2 - 1))).f0) ((rd_T74 l0_1 x18_2).f0)).bind fun t214 => (if t214 ≥ 0 then (some false) else (impl_BagOk.l0 k2 l0_1 (l0_1.length : Int) (wrap64 (x18_2 + 1)) a0_0 l0_1))) else (none)) else (none)) else (impl_BagOk.l0 k2 l0_1 (l0_1.length : Int) (wrap64 (x18_2 + 1)) a0_0 l0_1)) else (some false)))) = some r := by rw [if_pos rfl] at H; exact H
          clear H
          have H := H1
          clear H1
          by_cases c15 : ((rd_T74 l0_1 x18_2).f1) = 0
          ·rw [if_pos c15] at H
           have c15b0 : (((rd_T74 l0_1 x18_2).f1) == 0) = true := beq_iff_eq.mpr c15
           have c15b1 : (((rd_T74 l0_1 x18_2).f1) != 0) = false := bne_eq_false_iff_eq.mpr c15
           clear c15
           obtain rfl := Option.some.inj H
           have p209 : 0 ≤ (x18_2 : Int) := od_
           have q209 : x18_2 < (l0_1.length : Int) := od_
           obtain ⟨ad209, A209_0, c209_0, e209, hx209_0, hx209_1, hl209_0, hi209_0⟩ := at_T74 HR0_1.out x18_2 p209 q209
           cases e209
           replace hx209_0 := hb_ HB hx209_0
           replace hx209_1 := hb_ HB hx209_1
           have HR209_0 := Aside0.mk hi209_0
           have HC209_0 := Aside0.mk hl209_0
           clear hi209_0 hl209_0
           replace p209 := eq_true p209
           replace q209 := eq_true q209
           try go_wp2_with (first | ((with_reducible refine gate_dst (N := 4) rfl ?_); (try (refine gate_guard (by rfl) ?_; dsimp only)); refine bx_ 4 #[.slice none 0 0, .int .i64 0] 74 ?_; intro gb210 hg w16 hbox hb; have BK210 := Aside0.mk (hbox); have GW210 := gw_ hg; have GE210 := gw_ hg; have NB207_210 := nl_ hg BK207; have NB210_207 := ng_ hg BK207; replace BK207 := bkb_ BK207 hb; replace HB := bs_ hb; clear hb hbox hg; have hnb17 := NB210_207.out; have hnc17 := NB207_210.out; obtain ⟨hcz18_0, hcz18_1, hfz18_0, hfz18_1⟩ := b2_ BK210))
           have n0_ : Aside0 (((w16.setCell ⟨gb210, 0, none⟩ (.slice A209_0 ((rd_T74 l0_1 x18_2).f0).length c209_0)).setCell ⟨gb210, 1, none⟩ (.int .i64 ((rd_T74 l0_1 x18_2).f1))).heap[gb207]? = some (.cells #[.int .i64 a0_0, .slice (some ad209) l0_1.length c0_1] 40 (0, 0))) := ⟨(bf2_ NB207_210 (bkx_ BK207.out))⟩
           have n1_ : Aside0 (((w16.setCell ⟨gb210, 0, none⟩ (.slice A209_0 ((rd_T74 l0_1 x18_2).f0).length c209_0)).setCell ⟨gb210, 1, none⟩ (.int .i64 ((rd_T74 l0_1 x18_2).f1))).heap[gb210]? = some (.cells #[.slice A209_0 ((rd_T74 l0_1 x18_2).f0).length c209_0, .int .i64 ((rd_T74 l0_1 x18_2).f1)] 74 (0, 0))) := ⟨(bp2_ (bkx_ BK210.out))⟩
           have n2_ : Aside0 (Below w.heap.size w ((w16.setCell ⟨gb210, 0, none⟩ (.slice A209_0 ((rd_T74 l0_1 x18_2).f0).length c209_0)).setCell ⟨gb210, 1, none⟩ (.int .i64 ((rd_T74 l0_1 x18_2).f1)))) := ⟨bb_⟩
           (try clear BK207)
           (try clear BK210)
           (try clear HB)
           generalize ((w16.setCell ⟨gb210, 0, none⟩ (.slice A209_0 ((rd_T74 l0_1 x18_2).f0).length c209_0)).setCell ⟨gb210, 1, none⟩ (.int .i64 ((rd_T74 l0_1 x18_2).f1))) = w19 at n0_ n1_ n2_ ⊢
           have BK207 := n0_
           have BK210 := n1_
           have HB := n2_
           clear n0_ n1_ n2_
           replace BK207 := Aside0.mk (blk_drew BK207.out)
           replace BK210 := Aside0.mk (blk_drew BK210.out)
           replace HB := Aside0.mk (below_drew1 HB.out)
           refine start_ (n := 34) (S := fun w' => w'.cell? ⟨gb210, 0, none⟩ = some (.slice A209_0 ((rd_T74 l0_1 x18_2).f0).length c209_0) ∧ w'.cell? ⟨gb210, 1, none⟩ = some (.int .i64 ((rd_T74 l0_1 x18_2).f1)) ∧ w'.cell? ⟨gb207, 0, none⟩ = some (.int .i64 a0_0) ∧ w'.cell? ⟨gb207, 1, none⟩ = some (.slice (some ad209) l0_1.length c0_1)) (ds := []) (tf 0 34) (by kernel_rfl) rfl rfl ⟨bc_ BK210 0, bc_ BK210 1, bc_ BK207 0, bc_ BK207 1⟩ (fun hHeld => ?_); refine with_tabW impl_BagOk.tab6 impl_BagOk.bits6 (fun HT_ HW_ => ?_)
           generalize w19.drew = w20 at BK207 BK210 HB hHeld ⊢
           refine pl_ ?_
           refine plx_ 2 #[true, false, true, false, false, false, false, false, false, false, false, false, false, false, false, false, false, false, false, false, false, false, false, false, false, false, false, false, false, false, false, false, false, false] ?_
           refine tlx_ 1 (tf 3 31) ?_
           refine tl_ ?_
           refine one_ (i := 4) (N := some 27) (tf 5 29) rfl rfl (one_of HT_.out (by kernel_rfl)) (by decide) (fun K hK => ?_)
           refine gs_ Try.func83 #[.slice A209_0 ((rd_T74 l0_1 x18_2).f0).length c209_0, .int .i64 a0_0] ?_
           with_reducible refine (impl_isRow.calls _ _ ((rd_T74 l0_1 x18_2).f0) a0_0 true _ ?side1 ?side2 A13.out).mono ?_
           (case side1 => exact ck_ (Kd.C_below HR209_0.out HB.out))
           (case side2 => exact HC209_0.out)
           rintro e w21 ⟨rfl, hb⟩
           refine ⟨_, rfl, ?_⟩
           replace BK207 := bkb_ BK207 hb
           replace BK210 := bkb_ BK210 hb
           replace HB := bs_ hb
           (try clear hb)
           (try clear hb2)
           (try clear hk)
           (try clear hi)
           refine hK.out _ _ ⟨bc_ BK210 0, bc_ BK210 1, bc_ BK207 0, bc_ BK207 1⟩ (fun hHeld => ?_)
           clear hK K
           refine nm_ ?_
           refine plx_ 5 (tf 6 28) ?_
           iterate 2 (refine pl_ ?_)
           refine tl_ ?_
           iterate 3 (refine pl_ ?_)
           iterate 4 (refine pd_ ?_)
           iterate 2 (refine pl_ ?_)
           iterate 15 (refine pd_ ?_)
           refine pl_ ?_
           refine done_ (done_of HT_.out (by kernel_rfl)) ?_
           try go_wp2
           go_ret
           exact ⟨er_, bb_⟩
          ·rw [if_neg c15] at H
           have c15b0 : (((rd_T74 l0_1 x18_2).f1) == 0) = false := beq_eq_false_iff_ne.mpr c15
           have c15b1 : (((rd_T74 l0_1 x18_2).f1) != 0) = true := bne_iff_ne.mpr c15
           replace H := Option.bind_eq_some_iff.mp H
           obtain ⟨t212, A220, H⟩ := H
           replace H : (if t212 = true then (if x18_2 > 0 then (if 0 ≤ (wrap64 (x18_2 - 1)) then (if (wrap64 (x18_2 - 1)) < (l0_1.length : Int) then ((impl_CompareRow.f k2 ((rd_T74 l0_1 (wrap64 (x18_2 - 1))).f0) ((rd_T74 l0_1 x18_2).f0)).bind fun t214 => (if t214 ≥ 0 then (some false) else (impl_BagOk.l0 k2 l0_1 (l0_1.length : Int) (wrap64 (x18_2 + 1)) a0_0 l0_1))) else (none)) else (none)) else (impl_BagOk.l0 k2 l0_1 (l0_1.length : Int) (wrap64 (x18_2 + 1)) a0_0 l0_1)) else (some false)) = some r := H
           have A22 := Aside0.mk A220
           clear A220
           by_cases c23 : t212 = true
           ·subst c23
            have H1 : (if x18_2 > 0 then (if 0 ≤ (wrap64 (x18_2 - 1)) then (if (wrap64 (x18_2 - 1)) < (l0_1.length : Int) then ((impl_CompareRow.f k2 ((rd_T74 l0_1 (wrap64 (x18_2 - 1))).f0) ((rd_T74 l0_1 x18_2).f0)).bind fun t214 => (if t214 ≥ 0 then (some false) else (impl_BagOk.l0 k2 l0_1 (l0_1.length : Int) (wrap64 (x18_2 + 1)) a0_0 l0_1))) else (none)) else (none)) else (impl_BagOk.l0 k2 l0_1 (l0_1.length : Int) (wrap64 (x18_2 + 1)) a0_0 l0_1)) = some r := by rw [if_pos rfl] at H; exact H
            clear H
            have H := H1
            clear H1
            by_cases c24 : x18_2 > 0
            ·rw [if_pos c24] at H
             have c24b0 : decide (0 < x18_2) = true := decide_eq_true c24
             clear c24
             obtain ⟨ji25, hji25⟩ : ∃ j_ : Int, (wrap64 (x18_2 - 1)) = j_ := ⟨_, rfl⟩
             replace H : (if 0 ≤ (ji25) then (if (ji25) < (l0_1.length : Int) then ((impl_CompareRow.f k2 ((rd_T74 l0_1 (ji25)).f0) ((rd_T74 l0_1 x18_2).f0)).bind fun t214 => (if t214 ≥ 0 then (some false) else (impl_BagOk.l0 k2 l0_1 (l0_1.length : Int) (wrap64 (x18_2 + 1)) a0_0 l0_1))) else (none)) else (none)) = some r := by first | (rw [hji25] at H; exact H) | (simp only [hji25] at H ⊢; exact H)
             (try rw [hji25] at A13)
             (try rw [hji25] at A22)
             have hji25w : (IntKind.i64.wrap (x18_2 - 1)) = ji25 := (i64_w _).trans hji25
             by_cases c26 : 0 ≤ (ji25)
             ·rw [if_pos c26] at H
              have c26b0 : decide (0 ≤ (ji25)) = true := decide_eq_true c26
              clear c26
              by_cases c27 : (ji25) < (l0_1.length : Int)
              ·rw [if_pos c27] at H
               have c27b0 : decide ((ji25) < (l0_1.length : Int)) = true := decide_eq_true c27
               clear c27
               replace H := Option.bind_eq_some_iff.mp H
               obtain ⟨t214, A280, H⟩ := H
               replace H : (if t214 ≥ 0 then (some false) else (impl_BagOk.l0 k2 l0_1 (l0_1.length : Int) (wrap64 (x18_2 + 1)) a0_0 l0_1)) = some r := H
               have A28 := Aside0.mk A280
               clear A280
               by_cases c29 : t214 ≥ 0
               ·rw [if_pos c29] at H
                have c29b0 : decide (0 ≤ t214) = true := decide_eq_true c29
                clear c29
                obtain rfl := Option.some.inj H
                have p209 : 0 ≤ (x18_2 : Int) := od_
                have q209 : x18_2 < (l0_1.length : Int) := od_
                obtain ⟨ad209, A209_0, c209_0, e209, hx209_0, hx209_1, hl209_0, hi209_0⟩ := at_T74 HR0_1.out x18_2 p209 q209
                cases e209
                replace hx209_0 := hb_ HB hx209_0
                replace hx209_1 := hb_ HB hx209_1
                have HR209_0 := Aside0.mk hi209_0
                have HC209_0 := Aside0.mk hl209_0
                clear hi209_0 hl209_0
                replace p209 := eq_true p209
                replace q209 := eq_true q209
                try go_wp2_with (first | ((with_reducible refine gate_dst (N := 4) rfl ?_); (try (refine gate_guard (by rfl) ?_; dsimp only)); refine bx_ 4 #[.slice none 0 0, .int .i64 0] 74 ?_; intro gb210 hg w30 hbox hb; have BK210 := Aside0.mk (hbox); have GW210 := gw_ hg; have GE210 := gw_ hg; have NB207_210 := nl_ hg BK207; have NB210_207 := ng_ hg BK207; replace BK207 := bkb_ BK207 hb; replace HB := bs_ hb; clear hb hbox hg; have hnb31 := NB210_207.out; have hnc31 := NB207_210.out; obtain ⟨hcz32_0, hcz32_1, hfz32_0, hfz32_1⟩ := b2_ BK210))
                have n0_ : Aside0 (((w30.setCell ⟨gb210, 0, none⟩ (.slice A209_0 ((rd_T74 l0_1 x18_2).f0).length c209_0)).setCell ⟨gb210, 1, none⟩ (.int .i64 ((rd_T74 l0_1 x18_2).f1))).heap[gb207]? = some (.cells #[.int .i64 a0_0, .slice (some ad209) l0_1.length c0_1] 40 (0, 0))) := ⟨(bf2_ NB207_210 (bkx_ BK207.out))⟩
                have n1_ : Aside0 (((w30.setCell ⟨gb210, 0, none⟩ (.slice A209_0 ((rd_T74 l0_1 x18_2).f0).length c209_0)).setCell ⟨gb210, 1, none⟩ (.int .i64 ((rd_T74 l0_1 x18_2).f1))).heap[gb210]? = some (.cells #[.slice A209_0 ((rd_T74 l0_1 x18_2).f0).length c209_0, .int .i64 ((rd_T74 l0_1 x18_2).f1)] 74 (0, 0))) := ⟨(bp2_ (bkx_ BK210.out))⟩
                have n2_ : Aside0 (Below w.heap.size w ((w30.setCell ⟨gb210, 0, none⟩ (.slice A209_0 ((rd_T74 l0_1 x18_2).f0).length c209_0)).setCell ⟨gb210, 1, none⟩ (.int .i64 ((rd_T74 l0_1 x18_2).f1)))) := ⟨bb_⟩
                (try clear BK207)
                (try clear BK210)
                (try clear HB)
                generalize ((w30.setCell ⟨gb210, 0, none⟩ (.slice A209_0 ((rd_T74 l0_1 x18_2).f0).length c209_0)).setCell ⟨gb210, 1, none⟩ (.int .i64 ((rd_T74 l0_1 x18_2).f1))) = w33 at n0_ n1_ n2_ ⊢
                have BK207 := n0_
                have BK210 := n1_
                have HB := n2_
                clear n0_ n1_ n2_
                replace BK207 := Aside0.mk (blk_drew BK207.out)
                replace BK210 := Aside0.mk (blk_drew BK210.out)
                replace HB := Aside0.mk (below_drew1 HB.out)
                have p213 : 0 ≤ ((ji25) : Int) := od_
                have q213 : (ji25) < (l0_1.length : Int) := od_
                obtain ⟨ad213, A213_0, c213_0, e213, hx213_0, hx213_1, hl213_0, hi213_0⟩ := at_T74 HR0_1.out (ji25) p213 q213
                have hw213_1 := hx213_1
                have hw213_0 := hx213_0
                obtain rfl : ad209 = ad213 := (by injection e213)
                replace hx213_0 := hb_ HB hx213_0
                replace hx213_1 := hb_ HB hx213_1
                have HR213_0 := Aside0.mk hi213_0
                have HC213_0 := Aside0.mk hl213_0
                clear hi213_0 hl213_0
                replace p213 := eq_true p213
                replace q213 := eq_true q213
                refine start_ (n := 34) (S := fun w' => w'.cell? ⟨gb210, 0, none⟩ = some (.slice A209_0 ((rd_T74 l0_1 x18_2).f0).length c209_0) ∧ w'.cell? ⟨gb210, 1, none⟩ = some (.int .i64 ((rd_T74 l0_1 x18_2).f1)) ∧ w'.cell? ⟨gb207, 0, none⟩ = some (.int .i64 a0_0) ∧ w'.cell? ⟨gb207, 1, none⟩ = some (.slice (some ad209) l0_1.length c0_1) ∧ w'.cell? (ad209.add (((ji25)).toNat * 2)) = some (.slice A213_0 ((rd_T74 l0_1 (ji25)).f0).length c213_0) ∧ w'.cell? ⟨(ad209.add (((ji25)).toNat * 2)).block, (ad209.add (((ji25)).toNat * 2)).off + 1, none⟩ = some (.int .i64 ((rd_T74 l0_1 (ji25)).f1))) (ds := []) (tf 0 34) (by kernel_rfl) rfl rfl ⟨bc_ BK210 0, bc_ BK210 1, bc_ BK207 0, bc_ BK207 1, (hb_ HB hw213_0), (hb_ HB hw213_1)⟩ (fun hHeld => ?_); refine with_tabW impl_BagOk.tab6 impl_BagOk.bits6 (fun HT_ HW_ => ?_)
                generalize w33.drew = w34 at BK207 BK210 HB HR213_0 hx213_0 hx213_1 hHeld ⊢
                refine pl_ ?_
                refine plx_ 2 #[true, false, true, false, false, false, false, false, false, false, false, false, false, false, false, false, false, false, false, false, false, false, false, false, false, false, false, false, false, false, false, false, false, false] ?_
                refine tlx_ 1 (tf 3 31) ?_
                refine tl_ ?_
                refine one_ (i := 4) (N := some 27) (tf 5 29) rfl rfl (one_of HT_.out (by kernel_rfl)) (by decide) (fun K hK => ?_)
                refine gs_ Try.func83 #[.slice A209_0 ((rd_T74 l0_1 x18_2).f0).length c209_0, .int .i64 a0_0] ?_
                with_reducible refine (impl_isRow.calls _ _ ((rd_T74 l0_1 x18_2).f0) a0_0 true _ ?side1 ?side2 A13.out).mono ?_
                (case side1 => exact ck_ (Kd.C_below HR209_0.out HB.out))
                (case side2 => exact HC209_0.out)
                rintro e w35 ⟨rfl, hb⟩
                refine ⟨_, rfl, ?_⟩
                replace BK207 := bkb_ BK207 hb
                replace BK210 := bkb_ BK210 hb
                replace HB := bs_ hb
                (try clear hb)
                (try clear hb2)
                (try clear hk)
                (try clear hi)
                refine hK.out _ _ ⟨bc_ BK210 0, bc_ BK210 1, bc_ BK207 0, bc_ BK207 1, (have h_ := hb_ HB hw213_0; h_), (have h_ := hb_ HB hw213_1; h_)⟩ (fun hHeld => ?_)
                clear hK K
                refine nm_ ?_
                refine plx_ 5 (tf 6 28) ?_
                iterate 2 (refine pl_ ?_)
                refine tl_ ?_
                iterate 4 (refine pl_ ?_)
                refine tl_ ?_
                refine one_ (i := 14) (N := some 37) (tf 15 19) rfl rfl (one_of HT_.out (by kernel_rfl)) (by decide) (fun K hK => ?_)
                refine gs_ Try.func82 #[.int .i64 ((rd_T74 l0_1 x18_2).f1), .int .i64 (-1000000000), .int .i64 1000000000] ?_
                with_reducible refine (impl_within.calls ((rd_T74 l0_1 x18_2).f1) (-1000000000) 1000000000 true _ A22.out).mono ?_
                rintro e w' ⟨rfl, ⟨nd, rfl⟩⟩
                refine ⟨_, rfl, ?_⟩
                refine hK.out _ _ ⟨bc_ BK210 0, bc_ BK210 1, bc_ BK207 0, bc_ BK207 1, (have h_ := hb_ HB hw213_0; h_), (have h_ := hb_ HB hw213_1; h_)⟩ (fun hHeld => ?_)
                clear hK K
                refine nm_ ?_
                refine plx_ 15 (tf 16 18) ?_
                iterate 6 (refine pl_ ?_)
                refine plx_ 23 #[true, true, true, true, true, true, true, true, true, true, true, true, true, true, true, true, true, true, true, true, true, true, false, true, false, false, false, false, false, false, false, false, false, false] ?_
                refine plx_ 24 #[true, true, true, true, true, true, true, true, true, true, true, true, true, true, true, true, true, true, true, true, true, true, false, true, true, false, false, false, false, false, false, false, false, false] ?_
                refine plx_ 28 #[true, true, true, true, true, true, true, true, true, true, true, true, true, true, true, true, true, true, true, true, true, true, false, true, true, false, false, false, true, false, false, false, false, false] ?_
                refine tlx_ 22 #[true, true, true, true, true, true, true, true, true, true, true, true, true, true, true, true, true, true, true, true, true, true, true, true, true, false, false, false, true, false, false, false, false, false] ?_
                refine plx_ 25 #[true, true, true, true, true, true, true, true, true, true, true, true, true, true, true, true, true, true, true, true, true, true, true, true, true, true, false, false, true, false, false, false, false, false] ?_
                refine plx_ 26 #[true, true, true, true, true, true, true, true, true, true, true, true, true, true, true, true, true, true, true, true, true, true, true, true, true, true, true, false, true, false, false, false, false, false] ?_
                refine tlx_ 27 (tf 29 5) ?_
                refine tl_ ?_
                refine one_ (i := 30) (N := some 53) (tf 31 3) rfl rfl (one_of HT_.out (by kernel_rfl)) (by decide) (fun K hK => ?_)
                refine goes_ Try.func80 (by kernel_rfl) rfl #[.slice A213_0 ((rd_T74 l0_1 (ji25)).f0).length c213_0, .slice A209_0 ((rd_T74 l0_1 x18_2).f0).length c209_0] (by rfl) rfl rfl (by (try simp only [List.map_toArray, List.map_cons, List.map_nil]); first | done | (simp only [hji25]; rfl) | rfl | (simp only [List.length_drop, List.length_take]; rfl)) ?_
                with_reducible refine (impl_CompareRow.calls k2 _ _ ((rd_T74 l0_1 (ji25)).f0) _ _ ((rd_T74 l0_1 x18_2).f0) t214 _ ?side1 ?side2 ?side3 ?side4 A28.out).mono ?_
                (case side1 => exact ck_ (Kd.C_below HR213_0.out bb_))
                (case side2 => exact HC213_0.out)
                (case side3 => exact ck_ (Kd.C_below HR209_0.out bb_))
                (case side4 => exact HC209_0.out)
                rintro e w36 ⟨rfl, hb⟩
                refine ⟨_, rfl, ?_⟩
                replace BK207 := bkb_ BK207 hb
                replace BK210 := bkb_ BK210 hb
                replace HB := bs_ hb
                (try clear hb)
                (try clear hb2)
                (try clear hk)
                (try clear hi)
                refine hK.out _ _ ⟨bc_ BK210 0, bc_ BK210 1, bc_ BK207 0, bc_ BK207 1, (have h_ := hb_ HB hw213_0; h_), (have h_ := hb_ HB hw213_1; h_)⟩ (fun hHeld => ?_)
                clear hK K
                refine nm_ ?_
                refine plx_ 31 (tf 32 2) ?_
                iterate 2 (refine pl_ ?_)
                refine done_ (done_of HT_.out (by kernel_rfl)) ?_
                try go_wp2
                go_ret
                exact ⟨by first | rfl | (simp [errW_none, errW_some] <;> rfl) | (simp only [← hji25]; first | rfl | (simp [errW_none, errW_some] <;> rfl)) | (simp [*, errW_none, errW_some] <;> rfl), by repeat (first | (with_reducible first | exact HB.out | apply below_alloc | apply pw_below_drewN | apply below_drew1 | refine below_set ?_ GE207.out | refine below_set ?_ GE210.out) | exact HB.out)⟩
               ·rw [if_neg c29] at H
                have c29b0 : decide (0 ≤ t214) = false := decide_eq_false c29
                clear c29
                have H' := Aside0.mk H
                clear H
                have p209 : 0 ≤ (x18_2 : Int) := od_
                have q209 : x18_2 < (l0_1.length : Int) := od_
                obtain ⟨ad209, A209_0, c209_0, e209, hx209_0, hx209_1, hl209_0, hi209_0⟩ := at_T74 HR0_1.out x18_2 p209 q209
                cases e209
                replace hx209_0 := hb_ HB hx209_0
                replace hx209_1 := hb_ HB hx209_1
                have HR209_0 := Aside0.mk hi209_0
                have HC209_0 := Aside0.mk hl209_0
                clear hi209_0 hl209_0
                replace p209 := eq_true p209
                replace q209 := eq_true q209
                try go_wp2_with (first | ((with_reducible refine gate_dst (N := 4) rfl ?_); (try (refine gate_guard (by rfl) ?_; dsimp only)); refine bx_ 4 #[.slice none 0 0, .int .i64 0] 74 ?_; intro gb210 hg w37 hbox hb; have BK210 := Aside0.mk (hbox); have GW210 := gw_ hg; have GE210 := gw_ hg; have NB207_210 := nl_ hg BK207; have NB210_207 := ng_ hg BK207; replace BK207 := bkb_ BK207 hb; replace HB := bs_ hb; clear hb hbox hg; have hnb38 := NB210_207.out; have hnc38 := NB207_210.out; obtain ⟨hcz39_0, hcz39_1, hfz39_0, hfz39_1⟩ := b2_ BK210))
                have n0_ : Aside0 (((w37.setCell ⟨gb210, 0, none⟩ (.slice A209_0 ((rd_T74 l0_1 x18_2).f0).length c209_0)).setCell ⟨gb210, 1, none⟩ (.int .i64 ((rd_T74 l0_1 x18_2).f1))).heap[gb207]? = some (.cells #[.int .i64 a0_0, .slice (some ad209) l0_1.length c0_1] 40 (0, 0))) := ⟨(bf2_ NB207_210 (bkx_ BK207.out))⟩
                have n1_ : Aside0 (((w37.setCell ⟨gb210, 0, none⟩ (.slice A209_0 ((rd_T74 l0_1 x18_2).f0).length c209_0)).setCell ⟨gb210, 1, none⟩ (.int .i64 ((rd_T74 l0_1 x18_2).f1))).heap[gb210]? = some (.cells #[.slice A209_0 ((rd_T74 l0_1 x18_2).f0).length c209_0, .int .i64 ((rd_T74 l0_1 x18_2).f1)] 74 (0, 0))) := ⟨(bp2_ (bkx_ BK210.out))⟩
                have n2_ : Aside0 (Below w.heap.size w ((w37.setCell ⟨gb210, 0, none⟩ (.slice A209_0 ((rd_T74 l0_1 x18_2).f0).length c209_0)).setCell ⟨gb210, 1, none⟩ (.int .i64 ((rd_T74 l0_1 x18_2).f1)))) := ⟨bb_⟩
                (try clear BK207)
                (try clear BK210)
                (try clear HB)
                generalize ((w37.setCell ⟨gb210, 0, none⟩ (.slice A209_0 ((rd_T74 l0_1 x18_2).f0).length c209_0)).setCell ⟨gb210, 1, none⟩ (.int .i64 ((rd_T74 l0_1 x18_2).f1))) = w40 at n0_ n1_ n2_ ⊢
                have BK207 := n0_
                have BK210 := n1_
                have HB := n2_
                clear n0_ n1_ n2_
                replace BK207 := Aside0.mk (blk_drew BK207.out)
                replace BK210 := Aside0.mk (blk_drew BK210.out)
                replace HB := Aside0.mk (below_drew1 HB.out)
                have p213 : 0 ≤ ((ji25) : Int) := od_
                have q213 : (ji25) < (l0_1.length : Int) := od_
                obtain ⟨ad213, A213_0, c213_0, e213, hx213_0, hx213_1, hl213_0, hi213_0⟩ := at_T74 HR0_1.out (ji25) p213 q213
                have hw213_1 := hx213_1
                have hw213_0 := hx213_0
                obtain rfl : ad209 = ad213 := (by injection e213)
                replace hx213_0 := hb_ HB hx213_0
                replace hx213_1 := hb_ HB hx213_1
                have HR213_0 := Aside0.mk hi213_0
                have HC213_0 := Aside0.mk hl213_0
                clear hi213_0 hl213_0
                replace p213 := eq_true p213
                replace q213 := eq_true q213
                refine start_ (n := 34) (S := fun w' => w'.cell? ⟨gb210, 0, none⟩ = some (.slice A209_0 ((rd_T74 l0_1 x18_2).f0).length c209_0) ∧ w'.cell? ⟨gb210, 1, none⟩ = some (.int .i64 ((rd_T74 l0_1 x18_2).f1)) ∧ w'.cell? ⟨gb207, 0, none⟩ = some (.int .i64 a0_0) ∧ w'.cell? ⟨gb207, 1, none⟩ = some (.slice (some ad209) l0_1.length c0_1) ∧ w'.cell? (ad209.add (((ji25)).toNat * 2)) = some (.slice A213_0 ((rd_T74 l0_1 (ji25)).f0).length c213_0) ∧ w'.cell? ⟨(ad209.add (((ji25)).toNat * 2)).block, (ad209.add (((ji25)).toNat * 2)).off + 1, none⟩ = some (.int .i64 ((rd_T74 l0_1 (ji25)).f1))) (ds := []) (tf 0 34) (by kernel_rfl) rfl rfl ⟨bc_ BK210 0, bc_ BK210 1, bc_ BK207 0, bc_ BK207 1, (hb_ HB hw213_0), (hb_ HB hw213_1)⟩ (fun hHeld => ?_); refine with_tabW impl_BagOk.tab6 impl_BagOk.bits6 (fun HT_ HW_ => ?_)
                generalize w40.drew = w41 at BK207 BK210 HB HR213_0 hx213_0 hx213_1 hHeld ⊢
                refine pl_ ?_
                refine plx_ 2 #[true, false, true, false, false, false, false, false, false, false, false, false, false, false, false, false, false, false, false, false, false, false, false, false, false, false, false, false, false, false, false, false, false, false] ?_
                refine tlx_ 1 (tf 3 31) ?_
                refine tl_ ?_
                refine one_ (i := 4) (N := some 27) (tf 5 29) rfl rfl (one_of HT_.out (by kernel_rfl)) (by decide) (fun K hK => ?_)
                refine gs_ Try.func83 #[.slice A209_0 ((rd_T74 l0_1 x18_2).f0).length c209_0, .int .i64 a0_0] ?_
                with_reducible refine (impl_isRow.calls _ _ ((rd_T74 l0_1 x18_2).f0) a0_0 true _ ?side1 ?side2 A13.out).mono ?_
                (case side1 => exact ck_ (Kd.C_below HR209_0.out HB.out))
                (case side2 => exact HC209_0.out)
                rintro e w42 ⟨rfl, hb⟩
                refine ⟨_, rfl, ?_⟩
                replace BK207 := bkb_ BK207 hb
                replace BK210 := bkb_ BK210 hb
                replace HB := bs_ hb
                (try clear hb)
                (try clear hb2)
                (try clear hk)
                (try clear hi)
                refine hK.out _ _ ⟨bc_ BK210 0, bc_ BK210 1, bc_ BK207 0, bc_ BK207 1, (have h_ := hb_ HB hw213_0; h_), (have h_ := hb_ HB hw213_1; h_)⟩ (fun hHeld => ?_)
                clear hK K
                refine nm_ ?_
                refine plx_ 5 (tf 6 28) ?_
                iterate 2 (refine pl_ ?_)
                refine tl_ ?_
                iterate 4 (refine pl_ ?_)
                refine tl_ ?_
                refine one_ (i := 14) (N := some 37) (tf 15 19) rfl rfl (one_of HT_.out (by kernel_rfl)) (by decide) (fun K hK => ?_)
                refine gs_ Try.func82 #[.int .i64 ((rd_T74 l0_1 x18_2).f1), .int .i64 (-1000000000), .int .i64 1000000000] ?_
                with_reducible refine (impl_within.calls ((rd_T74 l0_1 x18_2).f1) (-1000000000) 1000000000 true _ A22.out).mono ?_
                rintro e w' ⟨rfl, ⟨nd, rfl⟩⟩
                refine ⟨_, rfl, ?_⟩
                refine hK.out _ _ ⟨bc_ BK210 0, bc_ BK210 1, bc_ BK207 0, bc_ BK207 1, (have h_ := hb_ HB hw213_0; h_), (have h_ := hb_ HB hw213_1; h_)⟩ (fun hHeld => ?_)
                clear hK K
                refine nm_ ?_
                refine plx_ 15 (tf 16 18) ?_
                iterate 6 (refine pl_ ?_)
                refine plx_ 23 #[true, true, true, true, true, true, true, true, true, true, true, true, true, true, true, true, true, true, true, true, true, true, false, true, false, false, false, false, false, false, false, false, false, false] ?_
                refine plx_ 24 #[true, true, true, true, true, true, true, true, true, true, true, true, true, true, true, true, true, true, true, true, true, true, false, true, true, false, false, false, false, false, false, false, false, false] ?_
                refine plx_ 28 #[true, true, true, true, true, true, true, true, true, true, true, true, true, true, true, true, true, true, true, true, true, true, false, true, true, false, false, false, true, false, false, false, false, false] ?_
                refine tlx_ 22 #[true, true, true, true, true, true, true, true, true, true, true, true, true, true, true, true, true, true, true, true, true, true, true, true, true, false, false, false, true, false, false, false, false, false] ?_
                refine plx_ 25 #[true, true, true, true, true, true, true, true, true, true, true, true, true, true, true, true, true, true, true, true, true, true, true, true, true, true, false, false, true, false, false, false, false, false] ?_
                refine plx_ 26 #[true, true, true, true, true, true, true, true, true, true, true, true, true, true, true, true, true, true, true, true, true, true, true, true, true, true, true, false, true, false, false, false, false, false] ?_
                refine tlx_ 27 (tf 29 5) ?_
                refine tl_ ?_
                refine one_ (i := 30) (N := some 53) (tf 31 3) rfl rfl (one_of HT_.out (by kernel_rfl)) (by decide) (fun K hK => ?_)
                refine goes_ Try.func80 (by kernel_rfl) rfl #[.slice A213_0 ((rd_T74 l0_1 (ji25)).f0).length c213_0, .slice A209_0 ((rd_T74 l0_1 x18_2).f0).length c209_0] (by rfl) rfl rfl (by (try simp only [List.map_toArray, List.map_cons, List.map_nil]); first | done | (simp only [hji25]; rfl) | rfl | (simp only [List.length_drop, List.length_take]; rfl)) ?_
                with_reducible refine (impl_CompareRow.calls k2 _ _ ((rd_T74 l0_1 (ji25)).f0) _ _ ((rd_T74 l0_1 x18_2).f0) t214 _ ?side1 ?side2 ?side3 ?side4 A28.out).mono ?_
                (case side1 => exact ck_ (Kd.C_below HR213_0.out bb_))
                (case side2 => exact HC213_0.out)
                (case side3 => exact ck_ (Kd.C_below HR209_0.out bb_))
                (case side4 => exact HC209_0.out)
                rintro e w43 ⟨rfl, hb⟩
                refine ⟨_, rfl, ?_⟩
                replace BK207 := bkb_ BK207 hb
                replace BK210 := bkb_ BK210 hb
                replace HB := bs_ hb
                (try clear hb)
                (try clear hb2)
                (try clear hk)
                (try clear hi)
                refine hK.out _ _ ⟨bc_ BK210 0, bc_ BK210 1, bc_ BK207 0, bc_ BK207 1, (have h_ := hb_ HB hw213_0; h_), (have h_ := hb_ HB hw213_1; h_)⟩ (fun hHeld => ?_)
                clear hK K
                refine nm_ ?_
                refine plx_ 31 (tf 32 2) ?_
                iterate 2 (refine pl_ ?_)
                refine done_ (done_of HT_.out (by kernel_rfl)) ?_
                try go_wp2
                go_roundg k2
                case measure => have := HJ1.out; have := HK2.out; omega
                case rel => exact ⟨(wrap64 (x18_2 + 1)), rs_, H', ⟨by have := HJ1.out; have := HK2.out; omega⟩, ⟨bkx_ BK207.out⟩, ⟨bb_⟩⟩
              ·rw [if_neg c27] at H
               exact absurd H (by simp)
             ·rw [if_neg c26] at H
              exact absurd H (by simp)
            ·rw [if_neg c24] at H
             have c24b0 : decide (0 < x18_2) = false := decide_eq_false c24
             clear c24
             have H' := Aside0.mk H
             clear H
             have p209 : 0 ≤ (x18_2 : Int) := od_
             have q209 : x18_2 < (l0_1.length : Int) := od_
             obtain ⟨ad209, A209_0, c209_0, e209, hx209_0, hx209_1, hl209_0, hi209_0⟩ := at_T74 HR0_1.out x18_2 p209 q209
             cases e209
             replace hx209_0 := hb_ HB hx209_0
             replace hx209_1 := hb_ HB hx209_1
             have HR209_0 := Aside0.mk hi209_0
             have HC209_0 := Aside0.mk hl209_0
             clear hi209_0 hl209_0
             replace p209 := eq_true p209
             replace q209 := eq_true q209
             try go_wp2_with (first | ((with_reducible refine gate_dst (N := 4) rfl ?_); (try (refine gate_guard (by rfl) ?_; dsimp only)); refine bx_ 4 #[.slice none 0 0, .int .i64 0] 74 ?_; intro gb210 hg w44 hbox hb; have BK210 := Aside0.mk (hbox); have GW210 := gw_ hg; have GE210 := gw_ hg; have NB207_210 := nl_ hg BK207; have NB210_207 := ng_ hg BK207; replace BK207 := bkb_ BK207 hb; replace HB := bs_ hb; clear hb hbox hg; have hnb45 := NB210_207.out; have hnc45 := NB207_210.out; obtain ⟨hcz46_0, hcz46_1, hfz46_0, hfz46_1⟩ := b2_ BK210))
             have n0_ : Aside0 (((w44.setCell ⟨gb210, 0, none⟩ (.slice A209_0 ((rd_T74 l0_1 x18_2).f0).length c209_0)).setCell ⟨gb210, 1, none⟩ (.int .i64 ((rd_T74 l0_1 x18_2).f1))).heap[gb207]? = some (.cells #[.int .i64 a0_0, .slice (some ad209) l0_1.length c0_1] 40 (0, 0))) := ⟨(bf2_ NB207_210 (bkx_ BK207.out))⟩
             have n1_ : Aside0 (((w44.setCell ⟨gb210, 0, none⟩ (.slice A209_0 ((rd_T74 l0_1 x18_2).f0).length c209_0)).setCell ⟨gb210, 1, none⟩ (.int .i64 ((rd_T74 l0_1 x18_2).f1))).heap[gb210]? = some (.cells #[.slice A209_0 ((rd_T74 l0_1 x18_2).f0).length c209_0, .int .i64 ((rd_T74 l0_1 x18_2).f1)] 74 (0, 0))) := ⟨(bp2_ (bkx_ BK210.out))⟩
             have n2_ : Aside0 (Below w.heap.size w ((w44.setCell ⟨gb210, 0, none⟩ (.slice A209_0 ((rd_T74 l0_1 x18_2).f0).length c209_0)).setCell ⟨gb210, 1, none⟩ (.int .i64 ((rd_T74 l0_1 x18_2).f1)))) := ⟨bb_⟩
             (try clear BK207)
             (try clear BK210)
             (try clear HB)
             generalize ((w44.setCell ⟨gb210, 0, none⟩ (.slice A209_0 ((rd_T74 l0_1 x18_2).f0).length c209_0)).setCell ⟨gb210, 1, none⟩ (.int .i64 ((rd_T74 l0_1 x18_2).f1))) = w47 at n0_ n1_ n2_ ⊢
             have BK207 := n0_
             have BK210 := n1_
             have HB := n2_
             clear n0_ n1_ n2_
             replace BK207 := Aside0.mk (blk_drew BK207.out)
             replace BK210 := Aside0.mk (blk_drew BK210.out)
             replace HB := Aside0.mk (below_drew1 HB.out)
             refine start_ (n := 34) (S := fun w' => w'.cell? ⟨gb210, 0, none⟩ = some (.slice A209_0 ((rd_T74 l0_1 x18_2).f0).length c209_0) ∧ w'.cell? ⟨gb210, 1, none⟩ = some (.int .i64 ((rd_T74 l0_1 x18_2).f1)) ∧ w'.cell? ⟨gb207, 0, none⟩ = some (.int .i64 a0_0) ∧ w'.cell? ⟨gb207, 1, none⟩ = some (.slice (some ad209) l0_1.length c0_1)) (ds := []) (tf 0 34) (by kernel_rfl) rfl rfl ⟨bc_ BK210 0, bc_ BK210 1, bc_ BK207 0, bc_ BK207 1⟩ (fun hHeld => ?_); refine with_tabW impl_BagOk.tab6 impl_BagOk.bits6 (fun HT_ HW_ => ?_)
             generalize w47.drew = w48 at BK207 BK210 HB hHeld ⊢
             refine pl_ ?_
             refine plx_ 2 #[true, false, true, false, false, false, false, false, false, false, false, false, false, false, false, false, false, false, false, false, false, false, false, false, false, false, false, false, false, false, false, false, false, false] ?_
             refine tlx_ 1 (tf 3 31) ?_
             refine tl_ ?_
             refine one_ (i := 4) (N := some 27) (tf 5 29) rfl rfl (one_of HT_.out (by kernel_rfl)) (by decide) (fun K hK => ?_)
             refine gs_ Try.func83 #[.slice A209_0 ((rd_T74 l0_1 x18_2).f0).length c209_0, .int .i64 a0_0] ?_
             with_reducible refine (impl_isRow.calls _ _ ((rd_T74 l0_1 x18_2).f0) a0_0 true _ ?side1 ?side2 A13.out).mono ?_
             (case side1 => exact ck_ (Kd.C_below HR209_0.out HB.out))
             (case side2 => exact HC209_0.out)
             rintro e w49 ⟨rfl, hb⟩
             refine ⟨_, rfl, ?_⟩
             replace BK207 := bkb_ BK207 hb
             replace BK210 := bkb_ BK210 hb
             replace HB := bs_ hb
             (try clear hb)
             (try clear hb2)
             (try clear hk)
             (try clear hi)
             refine hK.out _ _ ⟨bc_ BK210 0, bc_ BK210 1, bc_ BK207 0, bc_ BK207 1⟩ (fun hHeld => ?_)
             clear hK K
             refine nm_ ?_
             refine plx_ 5 (tf 6 28) ?_
             iterate 2 (refine pl_ ?_)
             refine tl_ ?_
             iterate 4 (refine pl_ ?_)
             refine tl_ ?_
             refine one_ (i := 14) (N := some 37) (tf 15 19) rfl rfl (one_of HT_.out (by kernel_rfl)) (by decide) (fun K hK => ?_)
             refine gs_ Try.func82 #[.int .i64 ((rd_T74 l0_1 x18_2).f1), .int .i64 (-1000000000), .int .i64 1000000000] ?_
             with_reducible refine (impl_within.calls ((rd_T74 l0_1 x18_2).f1) (-1000000000) 1000000000 true _ A22.out).mono ?_
             rintro e w' ⟨rfl, ⟨nd, rfl⟩⟩
             refine ⟨_, rfl, ?_⟩
             refine hK.out _ _ ⟨bc_ BK210 0, bc_ BK210 1, bc_ BK207 0, bc_ BK207 1⟩ (fun hHeld => ?_)
             clear hK K
             refine nm_ ?_
             refine plx_ 15 (tf 16 18) ?_
             iterate 5 (refine pl_ ?_)
             iterate 11 (refine pd_ ?_)
             iterate 2 (refine pl_ ?_)
             refine done_ (done_of HT_.out (by kernel_rfl)) ?_
             try go_wp2
             go_roundg k2
             case measure => have := HJ1.out; have := HK2.out; omega
             case rel => exact ⟨(wrap64 (x18_2 + 1)), rs_, H', ⟨by have := HJ1.out; have := HK2.out; omega⟩, ⟨bkx_ BK207.out⟩, ⟨bb_⟩⟩
           ·replace c23 := Bool.eq_false_iff.mpr c23
            subst c23
            have H1 : (some false) = some r := by rw [if_neg (show ¬ (false = true) by decide)] at H; exact H
            clear H
            have H := H1
            clear H1
            obtain rfl := Option.some.inj H
            have p209 : 0 ≤ (x18_2 : Int) := od_
            have q209 : x18_2 < (l0_1.length : Int) := od_
            obtain ⟨ad209, A209_0, c209_0, e209, hx209_0, hx209_1, hl209_0, hi209_0⟩ := at_T74 HR0_1.out x18_2 p209 q209
            cases e209
            replace hx209_0 := hb_ HB hx209_0
            replace hx209_1 := hb_ HB hx209_1
            have HR209_0 := Aside0.mk hi209_0
            have HC209_0 := Aside0.mk hl209_0
            clear hi209_0 hl209_0
            replace p209 := eq_true p209
            replace q209 := eq_true q209
            try go_wp2_with (first | ((with_reducible refine gate_dst (N := 4) rfl ?_); (try (refine gate_guard (by rfl) ?_; dsimp only)); refine bx_ 4 #[.slice none 0 0, .int .i64 0] 74 ?_; intro gb210 hg w50 hbox hb; have BK210 := Aside0.mk (hbox); have GW210 := gw_ hg; have GE210 := gw_ hg; have NB207_210 := nl_ hg BK207; have NB210_207 := ng_ hg BK207; replace BK207 := bkb_ BK207 hb; replace HB := bs_ hb; clear hb hbox hg; have hnb51 := NB210_207.out; have hnc51 := NB207_210.out; obtain ⟨hcz52_0, hcz52_1, hfz52_0, hfz52_1⟩ := b2_ BK210))
            have n0_ : Aside0 (((w50.setCell ⟨gb210, 0, none⟩ (.slice A209_0 ((rd_T74 l0_1 x18_2).f0).length c209_0)).setCell ⟨gb210, 1, none⟩ (.int .i64 ((rd_T74 l0_1 x18_2).f1))).heap[gb207]? = some (.cells #[.int .i64 a0_0, .slice (some ad209) l0_1.length c0_1] 40 (0, 0))) := ⟨(bf2_ NB207_210 (bkx_ BK207.out))⟩
            have n1_ : Aside0 (((w50.setCell ⟨gb210, 0, none⟩ (.slice A209_0 ((rd_T74 l0_1 x18_2).f0).length c209_0)).setCell ⟨gb210, 1, none⟩ (.int .i64 ((rd_T74 l0_1 x18_2).f1))).heap[gb210]? = some (.cells #[.slice A209_0 ((rd_T74 l0_1 x18_2).f0).length c209_0, .int .i64 ((rd_T74 l0_1 x18_2).f1)] 74 (0, 0))) := ⟨(bp2_ (bkx_ BK210.out))⟩
            have n2_ : Aside0 (Below w.heap.size w ((w50.setCell ⟨gb210, 0, none⟩ (.slice A209_0 ((rd_T74 l0_1 x18_2).f0).length c209_0)).setCell ⟨gb210, 1, none⟩ (.int .i64 ((rd_T74 l0_1 x18_2).f1)))) := ⟨bb_⟩
            (try clear BK207)
            (try clear BK210)
            (try clear HB)
            generalize ((w50.setCell ⟨gb210, 0, none⟩ (.slice A209_0 ((rd_T74 l0_1 x18_2).f0).length c209_0)).setCell ⟨gb210, 1, none⟩ (.int .i64 ((rd_T74 l0_1 x18_2).f1))) = w53 at n0_ n1_ n2_ ⊢
            have BK207 := n0_
            have BK210 := n1_
            have HB := n2_
            clear n0_ n1_ n2_
            replace BK207 := Aside0.mk (blk_drew BK207.out)
            replace BK210 := Aside0.mk (blk_drew BK210.out)
            replace HB := Aside0.mk (below_drew1 HB.out)
            refine start_ (n := 34) (S := fun w' => w'.cell? ⟨gb210, 0, none⟩ = some (.slice A209_0 ((rd_T74 l0_1 x18_2).f0).length c209_0) ∧ w'.cell? ⟨gb210, 1, none⟩ = some (.int .i64 ((rd_T74 l0_1 x18_2).f1)) ∧ w'.cell? ⟨gb207, 0, none⟩ = some (.int .i64 a0_0) ∧ w'.cell? ⟨gb207, 1, none⟩ = some (.slice (some ad209) l0_1.length c0_1)) (ds := []) (tf 0 34) (by kernel_rfl) rfl rfl ⟨bc_ BK210 0, bc_ BK210 1, bc_ BK207 0, bc_ BK207 1⟩ (fun hHeld => ?_); refine with_tabW impl_BagOk.tab6 impl_BagOk.bits6 (fun HT_ HW_ => ?_)
            generalize w53.drew = w54 at BK207 BK210 HB hHeld ⊢
            refine pl_ ?_
            refine plx_ 2 #[true, false, true, false, false, false, false, false, false, false, false, false, false, false, false, false, false, false, false, false, false, false, false, false, false, false, false, false, false, false, false, false, false, false] ?_
            refine tlx_ 1 (tf 3 31) ?_
            refine tl_ ?_
            refine one_ (i := 4) (N := some 27) (tf 5 29) rfl rfl (one_of HT_.out (by kernel_rfl)) (by decide) (fun K hK => ?_)
            refine gs_ Try.func83 #[.slice A209_0 ((rd_T74 l0_1 x18_2).f0).length c209_0, .int .i64 a0_0] ?_
            with_reducible refine (impl_isRow.calls _ _ ((rd_T74 l0_1 x18_2).f0) a0_0 true _ ?side1 ?side2 A13.out).mono ?_
            (case side1 => exact ck_ (Kd.C_below HR209_0.out HB.out))
            (case side2 => exact HC209_0.out)
            rintro e w55 ⟨rfl, hb⟩
            refine ⟨_, rfl, ?_⟩
            replace BK207 := bkb_ BK207 hb
            replace BK210 := bkb_ BK210 hb
            replace HB := bs_ hb
            (try clear hb)
            (try clear hb2)
            (try clear hk)
            (try clear hi)
            refine hK.out _ _ ⟨bc_ BK210 0, bc_ BK210 1, bc_ BK207 0, bc_ BK207 1⟩ (fun hHeld => ?_)
            clear hK K
            refine nm_ ?_
            refine plx_ 5 (tf 6 28) ?_
            iterate 2 (refine pl_ ?_)
            refine tl_ ?_
            iterate 4 (refine pl_ ?_)
            refine tl_ ?_
            refine one_ (i := 14) (N := some 37) (tf 15 19) rfl rfl (one_of HT_.out (by kernel_rfl)) (by decide) (fun K hK => ?_)
            refine gs_ Try.func82 #[.int .i64 ((rd_T74 l0_1 x18_2).f1), .int .i64 (-1000000000), .int .i64 1000000000] ?_
            with_reducible refine (impl_within.calls ((rd_T74 l0_1 x18_2).f1) (-1000000000) 1000000000 false _ A22.out).mono ?_
            rintro e w' ⟨rfl, ⟨nd, rfl⟩⟩
            refine ⟨_, rfl, ?_⟩
            refine hK.out _ _ ⟨bc_ BK210 0, bc_ BK210 1, bc_ BK207 0, bc_ BK207 1⟩ (fun hHeld => ?_)
            clear hK K
            refine nm_ ?_
            refine plx_ 15 (tf 16 18) ?_
            iterate 2 (refine pl_ ?_)
            iterate 15 (refine pd_ ?_)
            refine pl_ ?_
            refine done_ (done_of HT_.out (by kernel_rfl)) ?_
            try go_wp2
            go_ret
            exact ⟨er_, bb_⟩
         ·replace c14 := Bool.eq_false_iff.mpr c14
          subst c14
          have H1 : (some false) = some r := by rw [if_neg (show ¬ (false = true) by decide)] at H; exact H
          clear H
          have H := H1
          clear H1
          obtain rfl := Option.some.inj H
          have p209 : 0 ≤ (x18_2 : Int) := od_
          have q209 : x18_2 < (l0_1.length : Int) := od_
          obtain ⟨ad209, A209_0, c209_0, e209, hx209_0, hx209_1, hl209_0, hi209_0⟩ := at_T74 HR0_1.out x18_2 p209 q209
          cases e209
          replace hx209_0 := hb_ HB hx209_0
          replace hx209_1 := hb_ HB hx209_1
          have HR209_0 := Aside0.mk hi209_0
          have HC209_0 := Aside0.mk hl209_0
          clear hi209_0 hl209_0
          replace p209 := eq_true p209
          replace q209 := eq_true q209
          try go_wp2_with (first | ((with_reducible refine gate_dst (N := 4) rfl ?_); (try (refine gate_guard (by rfl) ?_; dsimp only)); refine bx_ 4 #[.slice none 0 0, .int .i64 0] 74 ?_; intro gb210 hg w56 hbox hb; have BK210 := Aside0.mk (hbox); have GW210 := gw_ hg; have GE210 := gw_ hg; have NB207_210 := nl_ hg BK207; have NB210_207 := ng_ hg BK207; replace BK207 := bkb_ BK207 hb; replace HB := bs_ hb; clear hb hbox hg; have hnb57 := NB210_207.out; have hnc57 := NB207_210.out; obtain ⟨hcz58_0, hcz58_1, hfz58_0, hfz58_1⟩ := b2_ BK210))
          have n0_ : Aside0 (((w56.setCell ⟨gb210, 0, none⟩ (.slice A209_0 ((rd_T74 l0_1 x18_2).f0).length c209_0)).setCell ⟨gb210, 1, none⟩ (.int .i64 ((rd_T74 l0_1 x18_2).f1))).heap[gb207]? = some (.cells #[.int .i64 a0_0, .slice (some ad209) l0_1.length c0_1] 40 (0, 0))) := ⟨(bf2_ NB207_210 (bkx_ BK207.out))⟩
          have n1_ : Aside0 (((w56.setCell ⟨gb210, 0, none⟩ (.slice A209_0 ((rd_T74 l0_1 x18_2).f0).length c209_0)).setCell ⟨gb210, 1, none⟩ (.int .i64 ((rd_T74 l0_1 x18_2).f1))).heap[gb210]? = some (.cells #[.slice A209_0 ((rd_T74 l0_1 x18_2).f0).length c209_0, .int .i64 ((rd_T74 l0_1 x18_2).f1)] 74 (0, 0))) := ⟨(bp2_ (bkx_ BK210.out))⟩
          have n2_ : Aside0 (Below w.heap.size w ((w56.setCell ⟨gb210, 0, none⟩ (.slice A209_0 ((rd_T74 l0_1 x18_2).f0).length c209_0)).setCell ⟨gb210, 1, none⟩ (.int .i64 ((rd_T74 l0_1 x18_2).f1)))) := ⟨bb_⟩
          (try clear BK207)
          (try clear BK210)
          (try clear HB)
          generalize ((w56.setCell ⟨gb210, 0, none⟩ (.slice A209_0 ((rd_T74 l0_1 x18_2).f0).length c209_0)).setCell ⟨gb210, 1, none⟩ (.int .i64 ((rd_T74 l0_1 x18_2).f1))) = w59 at n0_ n1_ n2_ ⊢
          have BK207 := n0_
          have BK210 := n1_
          have HB := n2_
          clear n0_ n1_ n2_
          replace BK207 := Aside0.mk (blk_drew BK207.out)
          replace BK210 := Aside0.mk (blk_drew BK210.out)
          replace HB := Aside0.mk (below_drew1 HB.out)
          refine start_ (n := 34) (S := fun w' => w'.cell? ⟨gb210, 0, none⟩ = some (.slice A209_0 ((rd_T74 l0_1 x18_2).f0).length c209_0) ∧ w'.cell? ⟨gb210, 1, none⟩ = some (.int .i64 ((rd_T74 l0_1 x18_2).f1)) ∧ w'.cell? ⟨gb207, 0, none⟩ = some (.int .i64 a0_0) ∧ w'.cell? ⟨gb207, 1, none⟩ = some (.slice (some ad209) l0_1.length c0_1)) (ds := []) (tf 0 34) (by kernel_rfl) rfl rfl ⟨bc_ BK210 0, bc_ BK210 1, bc_ BK207 0, bc_ BK207 1⟩ (fun hHeld => ?_); refine with_tabW impl_BagOk.tab6 impl_BagOk.bits6 (fun HT_ HW_ => ?_)
          generalize w59.drew = w60 at BK207 BK210 HB hHeld ⊢
          refine pl_ ?_
          refine plx_ 2 #[true, false, true, false, false, false, false, false, false, false, false, false, false, false, false, false, false, false, false, false, false, false, false, false, false, false, false, false, false, false, false, false, false, false] ?_
          refine tlx_ 1 (tf 3 31) ?_
          refine tl_ ?_
          refine one_ (i := 4) (N := some 27) (tf 5 29) rfl rfl (one_of HT_.out (by kernel_rfl)) (by decide) (fun K hK => ?_)
          refine gs_ Try.func83 #[.slice A209_0 ((rd_T74 l0_1 x18_2).f0).length c209_0, .int .i64 a0_0] ?_
          with_reducible refine (impl_isRow.calls _ _ ((rd_T74 l0_1 x18_2).f0) a0_0 false _ ?side1 ?side2 A13.out).mono ?_
          (case side1 => exact ck_ (Kd.C_below HR209_0.out HB.out))
          (case side2 => exact HC209_0.out)
          rintro e w61 ⟨rfl, hb⟩
          refine ⟨_, rfl, ?_⟩
          replace BK207 := bkb_ BK207 hb
          replace BK210 := bkb_ BK210 hb
          replace HB := bs_ hb
          (try clear hb)
          (try clear hb2)
          (try clear hk)
          (try clear hi)
          refine hK.out _ _ ⟨bc_ BK210 0, bc_ BK210 1, bc_ BK207 0, bc_ BK207 1⟩ (fun hHeld => ?_)
          clear hK K
          refine nm_ ?_
          refine plx_ 5 (tf 6 28) ?_
          refine pl_ ?_
          iterate 3 (refine pd_ ?_)
          iterate 2 (refine pl_ ?_)
          iterate 4 (refine pd_ ?_)
          iterate 2 (refine pl_ ?_)
          iterate 15 (refine pd_ ?_)
          refine pl_ ?_
          refine done_ (done_of HT_.out (by kernel_rfl)) ?_
          try go_wp2
          go_ret
          exact ⟨er_, bb_⟩
        ·rw [if_neg c12] at H
         exact absurd H (by simp)
       ·rw [if_neg c11] at H
        exact absurd H (by simp)
      ·rw [if_neg c10] at H
       have c10b0 : decide (x18_2 < (l0_1.length : Int)) = false := decide_eq_false c10
       clear c10
       obtain rfl := Option.some.inj H
       go_wp2
       go_ret
       exact ⟨er_, bb_⟩

end Go.Proofs.Ytapgfamppnhnmaa.PFnExactBagOf
