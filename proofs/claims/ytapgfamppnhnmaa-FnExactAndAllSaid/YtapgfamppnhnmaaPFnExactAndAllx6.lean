-- WRITTEN BY xprint.py, a program of this session over the kit's printer: by nobody's hand
-- PRESSED
import Derived.Test.YtapgfamppnhnmaaPress
import Derived.Test.YtapgfamppnhnmaaPFnExactAndAllx0
namespace Go.Proofs.Ytapgfamppnhnmaa.PFnExactAndAll
open Go.RowKit Go.Proofs.YtapgfamppnhnmaaW.PrintWords Go.Proofs.YtapgfamppnhnmaaW.PrintLast Go.Proofs.YtapgfamppnhnmaaW.PrintMore
attribute [local go_sem] max2_int min2_int max_two min_two max_three min_three max_four min_four   -- for this text's walks alone
set_option linter.unusedVariables false
set_option linter.unusedSimpArgs false

/-! ### impl_ownExpAt: function 103 -/
mutual
def impl_ownExpAt.l0 : Nat → Int → List (S28) → Int → Int → Int → Int → Int → Int → ByteArray → ByteArray → List (S28) → Option (Int × Int × Int × Int × ByteArray × ByteArray × (List (S28)))
 | 0, _, _, _, _, _, _, _, _, _, _, _ => none
 | k + 1, x1, x20, x21, x22, x222000, x222001, x222002, x222003, x222004, x222005, x222006 => if x22 < x21 then (if 0 ≤ x22 then (if x22 < (x20.length : Int) then ((impl_ownExpAt.f k ((rd_T28 x20 x22).f0) ((rd_T28 x20 x22).f1) ((rd_T28 x20 x22).f2.f0) ((rd_T28 x20 x22).f2.f1) ((rd_T28 x20 x22).f2.f2) ((rd_T28 x20 x22).f3) ((rd_T28 x20 x22).f4) (wrap64 (x1 + 1))).bind fun bt224 => (if x222006.length < 1599289640401 then (impl_ownExpAt.l0 k x1 x20 x21 (wrap64 (x22 + 1)) x222000 x222001 x222002 x222003 x222004 x222005 (x222006 ++ [(⟨bt224.1, bt224.2.1, (⟨bt224.2.2.1, bt224.2.2.2.1, bt224.2.2.2.2.1⟩ : S25), bt224.2.2.2.2.2.1, bt224.2.2.2.2.2.2⟩ : S28)])) else (none))) else (none)) else (none)) else (some (x222000, x222001, x222002, x222003, x222004, x222005, x222006))
def impl_ownExpAt.f : Nat → Int → Int → Int → Int → ByteArray → ByteArray → List (S28) → Int → Option (Int × Int × Int × Int × ByteArray × ByteArray × (List (S28)))
 | 0, _, _, _, _, _, _, _, _ => none
 | k + 1, a0_0, a0_1, a0_2, a0_3, a0_4, a0_5, l0_6, a1 => if a1 < 40 then (impl_ownExpAt.l0 k a1 l0_6 (l0_6.length : Int) 0 a0_0 a0_1 a0_2 a0_3 a0_4 a0_5 ([] : List (S28))) else (some (a0_0, a0_1, a0_2, a0_3, a0_4, a0_5, ([] : List (S28))))
end
def impl_ownExpAt.T6 : Bool × List (List Nat × List Nat) := (true, [([], []), ([0], [0]), ([], []), ([], []), ([3], [3]), ([2, 4], [2, 4]), ([5], [5]), ([1, 6, 5], [1, 6]), ([0, 1, 2, 3, 4, 5, 6, 7], []), ([8, 7, 7, 0, 1, 2, 3, 4, 5, 6, 7], [7, 8])])
def impl_ownExpAt.B6 : List Nat := [0, 1, 0, 0, 8, 28, 60, 127, 255, 511]
theorem impl_ownExpAt.tab6 : rtab .any (opsOf Try.f103 6) = impl_ownExpAt.T6 := by kernel_rfl
theorem impl_ownExpAt.bits6 : waitsOk impl_ownExpAt.T6.2 impl_ownExpAt.B6 = true := by kernel_rfl
set_option maxHeartbeats 8000000 in
set_option maxRecDepth 100000 in
theorem impl_ownExpAt.calls (k : Nat) : ∀ (a0_0 : Int) (a0_1 : Int) (a0_2 : Int) (a0_3 : Int) (a0_4 : ByteArray) (a0_5 : ByteArray) (A0_6 : Option Addr) (c0_6 : Nat) (l0_6 : List (S28)) (a1 : Int) (r1 : Int) (r2 : Int) (r3 : Int) (r4 : Int) (r5 : ByteArray) (r6 : ByteArray) (r7 : List (S28)) (w : World) (hr0_6 : Kd.C k28 w A0_6 l0_6.length l0_6) (hc0_6 : l0_6.length ≤ c0_6) (h : impl_ownExpAt.f k a0_0 a0_1 a0_2 a0_3 a0_4 a0_5 l0_6 a1 = some (r1, r2, r3, r4, r5, r6, r7)),
  Calls Try.prog 103 #[.agg #[.int .i64 a0_0, .int .i64 a0_1, .int .i64 a0_2, .int .i64 a0_3, .string a0_4, .string a0_5, .slice A0_6 l0_6.length c0_6], .int .i64 a1] w fun e w' => ∃ v6_ : Value, e = .returned (.agg #[.int .i64 r1, .int .i64 r2, .int .i64 r3, .int .i64 r4, .string r5, .string r6, v6_]) ∧ Kd.S k28 28 w' w.heap.size (fun _ => True) v6_ r7 ∧ Below w.heap.size w w' := by
 induction k using Nat.strongRecOn with
 | _ k ih =>
 intro a0_0 a0_1 a0_2 a0_3 a0_4 a0_5 A0_6 c0_6 l0_6 a1 r1 r2 r3 r4 r5 r6 r7 w hr0_6 hc0_6 h
 cases k with
 | zero => exact absurd h (by simp [impl_ownExpAt.f])
 | succ k =>
 simp only [impl_ownExpAt.f] at h
 have hu28 := Try.underlying28
 have hu25 := Try.underlying25
 have HR0_6 := Aside0.mk hr0_6
 have HC0_6 := Aside0.mk hc0_6
 clear hr0_6 hc0_6
 have HB := Aside0.mk (Below.refl w.heap.size w)
 have H : (if a1 < 40 then (impl_ownExpAt.l0 k a1 l0_6 (l0_6.length : Int) 0 a0_0 a0_1 a0_2 a0_3 a0_4 a0_5 ([] : List (S28))) else (some (a0_0, a0_1, a0_2, a0_3, a0_4, a0_5, ([] : List (S28))))) = some (r1, r2, r3, r4, r5, r6, r7) := h
 clear h
 by_cases c3 : a1 < 40
 ·rw [if_pos c3] at H
  have c3b0 : decide (a1 < 40) = true := decide_eq_true c3
  clear c3
  have H' := Aside0.mk H
  clear H
  go_enter Try.func103, Try.ntmps103
  go_wp2_with (first | ((with_reducible refine gate_dst (N := 2) rfl ?_); refine bx_ 2 #[.int .i64 a0_0, .int .i64 a0_1, .int .i64 a0_2, .int .i64 a0_3, .string a0_4, .string a0_5, .slice A0_6 l0_6.length c0_6] 28 ?_; intro gb219 hg w4 hbox hb; have BK219 := Aside0.mk (hbox); have GW219 := gw_ hg; have GE219 := gw_ hg; replace HB := bs_ hb; clear hb hbox hg) | ((with_reducible refine gate_dst (N := 4) rfl ?_); refine bx_ 4 #[.int .i64 0, .int .i64 0, .int .i64 0, .int .i64 0, .string (⟨#[]⟩ : ByteArray), .string (⟨#[]⟩ : ByteArray), .slice none 0 0] 28 ?_; intro gb220 hg w5 hbox hb; have BK220 := Aside0.mk (hbox); have GW220 := gw_ hg; have GE220 := gw_ hg; have NB219_220 := nl_ hg BK219; have NB220_219 := ng_ hg BK219; replace BK219 := bkb_ BK219 hb; replace HB := bs_ hb; clear hb hbox hg; have hnb6 := NB219_220.out; have hnc6 := NB220_219.out; obtain ⟨hcz7_0, hcz7_1, hcz7_2, hcz7_3, hcz7_4, hcz7_5, hcz7_6, hfz7_0, hfz7_1, hfz7_2, hfz7_3, hfz7_4, hfz7_5, hfz7_6⟩ := b7_ BK219) | ((with_reducible refine gate_dst (N := 5) rfl ?_); refine bx_ 5 #[.int .i64 0, .int .i64 0, .int .i64 0, .int .i64 0, .string (⟨#[]⟩ : ByteArray), .string (⟨#[]⟩ : ByteArray), .slice none 0 0] 28 ?_; intro gb221 hg w8 hbox hb; have BK221 := Aside0.mk (hbox); have GW221 := gw_ hg; have GE221 := gw_ hg; have NB219_221 := nl_ hg BK219; have NB221_219 := ng_ hg BK219; have NB220_221 := nl_ hg BK220; have NB221_220 := ng_ hg BK220; replace BK219 := bkb_ BK219 hb; replace BK220 := bkb_ BK220 hb; replace HB := bs_ hb; clear hb hbox hg; have hnb9 := NB221_219.out; have hnc9 := NB219_221.out; have hnb10 := NB221_220.out; have hnc10 := NB220_221.out; obtain ⟨hcz11_0, hcz11_1, hcz11_2, hcz11_3, hcz11_4, hcz11_5, hcz11_6, hfz11_0, hfz11_1, hfz11_2, hfz11_3, hfz11_4, hfz11_5, hfz11_6⟩ := b7_ BK221; obtain ⟨hcz12_0, hcz12_1, hcz12_2, hcz12_3, hcz12_4, hcz12_5, hcz12_6, hfz12_0, hfz12_1, hfz12_2, hfz12_3, hfz12_4, hfz12_5, hfz12_6⟩ := b7_ BK219))
  go_loopg [22] k (fun kq v22 w' => ∃ (x22_1 : Int) (x222006_1 : List (S28)) (u222006 : Value), v22 = .int .i64 x22_1 ∧ Aside0 (impl_ownExpAt.l0 kq a1 l0_6 (l0_6.length : Int) x22_1 a0_0 a0_1 a0_2 a0_3 a0_4 a0_5 x222006_1 = some (r1, r2, r3, r4, r5, r6, r7)) ∧ Aside0 (kq ≤ k) ∧ Aside0 (Kd.S k28 28 w' w.heap.size (fun k_ => k_ ≠ gb219 ∧ k_ ≠ gb220 ∧ k_ ≠ gb221) u222006 x222006_1) ∧ Aside0 (w'.heap[gb219]? = some (.cells #[.int .i64 a0_0, .int .i64 a0_1, .int .i64 a0_2, .int .i64 a0_3, .string a0_4, .string a0_5, (.slice A0_6 l0_6.length c0_6)] 28 (0, 0))) ∧ Aside0 (w'.heap[gb220]? = some (.cells #[.int .i64 0, .int .i64 0, .int .i64 0, .int .i64 0, .string (⟨#[]⟩ : ByteArray), .string (⟨#[]⟩ : ByteArray), (.slice none 0 0)] 28 (0, 0))) ∧ Aside0 (w'.heap[gb221]? = some (.cells #[.int .i64 a0_0, .int .i64 a0_1, .int .i64 a0_2, .int .i64 a0_3, .string a0_4, .string a0_5, u222006] 28 (0, 0))) ∧ Aside0 (Below w.heap.size w w'))
  case atStart => exact ⟨(0), (([] : List (S28))), (.slice none 0 0), rs_, H', ⟨Nat.le_refl _⟩, ⟨by first | exact Kd.S_nil _ _ _ _ _ | exact Kd.N_nil _ _ _ _ _ | exact Kd.V_nil _ _ _ _ _ | exact Kd.Q_nil _ _ _ _ _ | exact Kd.R_nil _ _ _ _ _⟩, ⟨(bf7_ NB219_221 (bkx_ BK219.out))⟩, ⟨(bf7_ NB220_221 (bkx_ BK220.out))⟩, ⟨(bp7_ (bkx_ BK221.out))⟩, ⟨bb_⟩⟩
  case round =>
   clear H'
   try clear c1
   try clear p2
   try clear c3
   try clear c3b0
   try clear c6
   try clear c9
   try clear c10
   try clear hcz11_0
   try clear hcz11_1
   try clear hcz11_2
   try clear hcz11_3
   try clear hcz11_4
   try clear hcz11_5
   try clear hcz11_6
   try clear hcz12_0
   try clear hcz12_1
   try clear hcz12_2
   try clear hcz12_3
   try clear hcz12_4
   try clear hcz12_5
   try clear hcz12_6
   try clear hcz7_0
   try clear hcz7_1
   try clear hcz7_2
   try clear hcz7_3
   try clear hcz7_4
   try clear hcz7_5
   try clear hcz7_6
   try clear hfz11_0
   try clear hfz11_1
   try clear hfz11_2
   try clear hfz11_3
   try clear hfz11_4
   try clear hfz11_5
   try clear hfz11_6
   try clear hfz12_0
   try clear hfz12_1
   try clear hfz12_2
   try clear hfz12_3
   try clear hfz12_4
   try clear hfz12_5
   try clear hfz12_6
   try clear hfz7_0
   try clear hfz7_1
   try clear hfz7_2
   try clear hfz7_3
   try clear hfz7_4
   try clear hfz7_5
   try clear hfz7_6
   try clear BK219
   try clear BK220
   try clear BK221
   obtain ⟨x22_1, x222006_1, u222006, rfl, HA, HK1, HO_222006, BK219, BK220, BK221, HB⟩ := hrel
   cases gk with
   | zero => exact absurd HA.out (by simp [impl_ownExpAt.l0])
   | succ k1 =>
    have H := HA.out
    clear HA
    simp only [impl_ownExpAt.l0] at H
    by_cases c13 : x22_1 < (l0_6.length : Int)
    ·rw [if_pos c13] at H
     have c13b0 : decide (x22_1 < (l0_6.length : Int)) = true := decide_eq_true c13
     clear c13
     by_cases c14 : 0 ≤ x22_1
     ·rw [if_pos c14] at H
      have c14b0 : decide (0 ≤ x22_1) = true := decide_eq_true c14
      clear c14
      by_cases c15 : x22_1 < (l0_6.length : Int)
      ·rw [if_pos c15] at H
       have c15b0 : decide (x22_1 < (l0_6.length : Int)) = true := decide_eq_true c15
       clear c15
       replace H := Option.bind_eq_some_iff.mp H
       obtain ⟨⟨t224, t225, t226, t227, t228, t229, t230⟩, A160, H⟩ := H
       replace H : (if x222006_1.length < 1599289640401 then (impl_ownExpAt.l0 k1 a1 l0_6 (l0_6.length : Int) (wrap64 (x22_1 + 1)) a0_0 a0_1 a0_2 a0_3 a0_4 a0_5 (x222006_1 ++ [(⟨t224, t225, (⟨t226, t227, t228⟩ : S25), t229, t230⟩ : S28)])) else (none)) = some (r1, r2, r3, r4, r5, r6, r7) := H
       have A16 := Aside0.mk A160
       clear A160
       by_cases c17 : x222006_1.length < 1599289640401
       ·rw [if_pos c17] at H
        have LMc17 := Aside0.mk c17
        clear c17
        obtain ⟨y233, hy233⟩ : ∃ y_ : List (S28), y_ = (x222006_1 ++ [(⟨t224, t225, (⟨t226, t227, t228⟩ : S25), t229, t230⟩ : S28)]) := ⟨_, rfl⟩
        replace H : (impl_ownExpAt.l0 k1 a1 l0_6 (l0_6.length : Int) (wrap64 (x22_1 + 1)) a0_0 a0_1 a0_2 a0_3 a0_4 a0_5 y233) = some (r1, r2, r3, r4, r5, r6, r7) := by first | (rw [hy233]; with_reducible exact H) | (have H2_ := (Option.bind_some _ _).symm.trans H; rw [hy233]; with_reducible exact H2_) | (have H2_ := (Option.bind_some _ _).symm.trans H; with_reducible exact H2_) | with_reducible exact H | (rw [hy233]; exact H) | exact H
        have Ny233 := Aside0.mk hy233
        clear hy233
        have H' := Aside0.mk H
        clear H
        have p222 : 0 ≤ (x22_1 : Int) := of_decide_eq_true (by first | (with_reducible assumption) | assumption)
        have q222 : x22_1 < (l0_6.length : Int) := of_decide_eq_true (by first | (with_reducible assumption) | assumption)
        obtain ⟨ad222, A222_6, c222_6, e222, hx222_0, hx222_1, hx222_2, hx222_3, hx222_4, hx222_5, hx222_6, hl222_6, hi222_6⟩ := at_T28 HR0_6.out x22_1 p222 q222
        cases e222
        replace hx222_0 := hb_ HB hx222_0
        replace hx222_1 := hb_ HB hx222_1
        replace hx222_2 := hb_ HB hx222_2
        replace hx222_3 := hb_ HB hx222_3
        replace hx222_4 := hb_ HB hx222_4
        replace hx222_5 := hb_ HB hx222_5
        replace hx222_6 := hb_ HB hx222_6
        have HR222_6 := Aside0.mk hi222_6
        have HC222_6 := Aside0.mk hl222_6
        clear hi222_6 hl222_6
        replace p222 := eq_true p222
        replace q222 := eq_true q222
        try go_wp2_with (first | ((with_reducible refine gate_dst (N := 7) rfl ?_); refine bx_ 7 #[.int .i64 0, .int .i64 0, .int .i64 0, .int .i64 0, .string (⟨#[]⟩ : ByteArray), .string (⟨#[]⟩ : ByteArray), .slice none 0 0] 28 ?_; intro gb223 hg w18 hbox hb; have BK223 := Aside0.mk (hbox); have GW223 := gw_ hg; have GE223 := gw_ hg; have NB219_223 := nl_ hg BK219; have NB223_219 := ng_ hg BK219; have NB220_223 := nl_ hg BK220; have NB223_220 := ng_ hg BK220; have NB221_223 := nl_ hg BK221; have NB223_221 := ng_ hg BK221; replace HO_222006 := Aside0.mk (Kd.S_below (Kd.S_elderB (sk_ HO_222006.out) gb223 (Nat.le_of_eq hg.symm)) hb); replace BK219 := bkb_ BK219 hb; replace BK220 := bkb_ BK220 hb; replace BK221 := bkb_ BK221 hb; replace HB := bs_ hb; clear hb hbox hg; have hnb19 := NB223_219.out; have hnc19 := NB219_223.out; have hnb20 := NB223_220.out; have hnc20 := NB220_223.out; have hnb21 := NB223_221.out; have hnc21 := NB221_223.out; obtain ⟨hcz22_0, hcz22_1, hcz22_2, hcz22_3, hcz22_4, hcz22_5, hcz22_6, hfz22_0, hfz22_1, hfz22_2, hfz22_3, hfz22_4, hfz22_5, hfz22_6⟩ := b7_ BK223))
        have n0_ : Aside0 (Kd.S k28 28 (((((((w18.setCell ⟨gb223, 0, none⟩ (.int .i64 ((rd_T28 l0_6 x22_1).f0))).setCell ⟨gb223, 1, none⟩ (.int .i64 ((rd_T28 l0_6 x22_1).f1))).setCell ⟨gb223, 2, none⟩ (.int .i64 ((rd_T28 l0_6 x22_1).f2.f0))).setCell ⟨gb223, 3, none⟩ (.int .i64 ((rd_T28 l0_6 x22_1).f2.f1))).setCell ⟨gb223, 4, none⟩ (.string ((rd_T28 l0_6 x22_1).f2.f2))).setCell ⟨gb223, 5, none⟩ (.string ((rd_T28 l0_6 x22_1).f3))).setCell ⟨gb223, 6, none⟩ (.slice A222_6 ((rd_T28 l0_6 x22_1).f4).length c222_6)) w.heap.size (fun k_ => k_ ≠ gb219 ∧ k_ ≠ gb220 ∧ k_ ≠ gb221 ∧ k_ ≠ gb223) u222006 x222006_1) := ⟨by (with_reducible repeat (first | apply Kd.S_alloc | apply Kd.S_drewN | apply Kd.S_drew)); exact Kd.S_mono (Kd.S_far (p := ⟨gb223, 6, none⟩) (Kd.S_far (p := ⟨gb223, 5, none⟩) (Kd.S_far (p := ⟨gb223, 4, none⟩) (Kd.S_far (p := ⟨gb223, 3, none⟩) (Kd.S_far (p := ⟨gb223, 2, none⟩) (Kd.S_far (p := ⟨gb223, 1, none⟩) (Kd.S_far (p := ⟨gb223, 0, none⟩) (Kd.S_mono HO_222006.out (fun k_ hk => (⟨hk, hk.2⟩ : _ ∧ k_ ≠ gb223))) (fun _ hk => hk.2) (.int .i64 ((rd_T28 l0_6 x22_1).f0))) (fun _ hk => hk.2) (.int .i64 ((rd_T28 l0_6 x22_1).f1))) (fun _ hk => hk.2) (.int .i64 ((rd_T28 l0_6 x22_1).f2.f0))) (fun _ hk => hk.2) (.int .i64 ((rd_T28 l0_6 x22_1).f2.f1))) (fun _ hk => hk.2) (.string ((rd_T28 l0_6 x22_1).f2.f2))) (fun _ hk => hk.2) (.string ((rd_T28 l0_6 x22_1).f3))) (fun _ hk => hk.2) (.slice A222_6 ((rd_T28 l0_6 x22_1).f4).length c222_6)) (fun _ hk => ⟨hk.1.1.1, ⟨hk.1.1.2.1, ⟨hk.1.1.2.2, hk.1.2⟩⟩⟩)⟩
        have n1_ : Aside0 ((((((((w18.setCell ⟨gb223, 0, none⟩ (.int .i64 ((rd_T28 l0_6 x22_1).f0))).setCell ⟨gb223, 1, none⟩ (.int .i64 ((rd_T28 l0_6 x22_1).f1))).setCell ⟨gb223, 2, none⟩ (.int .i64 ((rd_T28 l0_6 x22_1).f2.f0))).setCell ⟨gb223, 3, none⟩ (.int .i64 ((rd_T28 l0_6 x22_1).f2.f1))).setCell ⟨gb223, 4, none⟩ (.string ((rd_T28 l0_6 x22_1).f2.f2))).setCell ⟨gb223, 5, none⟩ (.string ((rd_T28 l0_6 x22_1).f3))).setCell ⟨gb223, 6, none⟩ (.slice A222_6 ((rd_T28 l0_6 x22_1).f4).length c222_6)).heap[gb219]? = some (.cells #[.int .i64 a0_0, .int .i64 a0_1, .int .i64 a0_2, .int .i64 a0_3, .string a0_4, .string a0_5, .slice (some ad222) l0_6.length c0_6] 28 (0, 0))) := ⟨(bf7_ NB219_223 (bkx_ BK219.out))⟩
        have n2_ : Aside0 ((((((((w18.setCell ⟨gb223, 0, none⟩ (.int .i64 ((rd_T28 l0_6 x22_1).f0))).setCell ⟨gb223, 1, none⟩ (.int .i64 ((rd_T28 l0_6 x22_1).f1))).setCell ⟨gb223, 2, none⟩ (.int .i64 ((rd_T28 l0_6 x22_1).f2.f0))).setCell ⟨gb223, 3, none⟩ (.int .i64 ((rd_T28 l0_6 x22_1).f2.f1))).setCell ⟨gb223, 4, none⟩ (.string ((rd_T28 l0_6 x22_1).f2.f2))).setCell ⟨gb223, 5, none⟩ (.string ((rd_T28 l0_6 x22_1).f3))).setCell ⟨gb223, 6, none⟩ (.slice A222_6 ((rd_T28 l0_6 x22_1).f4).length c222_6)).heap[gb220]? = some (.cells #[.int .i64 0, .int .i64 0, .int .i64 0, .int .i64 0, .string (⟨#[]⟩ : ByteArray), .string (⟨#[]⟩ : ByteArray), .slice none 0 0] 28 (0, 0))) := ⟨(bf7_ NB220_223 (bkx_ BK220.out))⟩
        have n3_ : Aside0 ((((((((w18.setCell ⟨gb223, 0, none⟩ (.int .i64 ((rd_T28 l0_6 x22_1).f0))).setCell ⟨gb223, 1, none⟩ (.int .i64 ((rd_T28 l0_6 x22_1).f1))).setCell ⟨gb223, 2, none⟩ (.int .i64 ((rd_T28 l0_6 x22_1).f2.f0))).setCell ⟨gb223, 3, none⟩ (.int .i64 ((rd_T28 l0_6 x22_1).f2.f1))).setCell ⟨gb223, 4, none⟩ (.string ((rd_T28 l0_6 x22_1).f2.f2))).setCell ⟨gb223, 5, none⟩ (.string ((rd_T28 l0_6 x22_1).f3))).setCell ⟨gb223, 6, none⟩ (.slice A222_6 ((rd_T28 l0_6 x22_1).f4).length c222_6)).heap[gb221]? = some (.cells #[.int .i64 a0_0, .int .i64 a0_1, .int .i64 a0_2, .int .i64 a0_3, .string a0_4, .string a0_5, u222006] 28 (0, 0))) := ⟨(bf7_ NB221_223 (bkx_ BK221.out))⟩
        have n4_ : Aside0 ((((((((w18.setCell ⟨gb223, 0, none⟩ (.int .i64 ((rd_T28 l0_6 x22_1).f0))).setCell ⟨gb223, 1, none⟩ (.int .i64 ((rd_T28 l0_6 x22_1).f1))).setCell ⟨gb223, 2, none⟩ (.int .i64 ((rd_T28 l0_6 x22_1).f2.f0))).setCell ⟨gb223, 3, none⟩ (.int .i64 ((rd_T28 l0_6 x22_1).f2.f1))).setCell ⟨gb223, 4, none⟩ (.string ((rd_T28 l0_6 x22_1).f2.f2))).setCell ⟨gb223, 5, none⟩ (.string ((rd_T28 l0_6 x22_1).f3))).setCell ⟨gb223, 6, none⟩ (.slice A222_6 ((rd_T28 l0_6 x22_1).f4).length c222_6)).heap[gb223]? = some (.cells #[.int .i64 ((rd_T28 l0_6 x22_1).f0), .int .i64 ((rd_T28 l0_6 x22_1).f1), .int .i64 ((rd_T28 l0_6 x22_1).f2.f0), .int .i64 ((rd_T28 l0_6 x22_1).f2.f1), .string ((rd_T28 l0_6 x22_1).f2.f2), .string ((rd_T28 l0_6 x22_1).f3), .slice A222_6 ((rd_T28 l0_6 x22_1).f4).length c222_6] 28 (0, 0))) := ⟨(bp7_ (bkx_ BK223.out))⟩
        have n5_ : Aside0 (Below w.heap.size w (((((((w18.setCell ⟨gb223, 0, none⟩ (.int .i64 ((rd_T28 l0_6 x22_1).f0))).setCell ⟨gb223, 1, none⟩ (.int .i64 ((rd_T28 l0_6 x22_1).f1))).setCell ⟨gb223, 2, none⟩ (.int .i64 ((rd_T28 l0_6 x22_1).f2.f0))).setCell ⟨gb223, 3, none⟩ (.int .i64 ((rd_T28 l0_6 x22_1).f2.f1))).setCell ⟨gb223, 4, none⟩ (.string ((rd_T28 l0_6 x22_1).f2.f2))).setCell ⟨gb223, 5, none⟩ (.string ((rd_T28 l0_6 x22_1).f3))).setCell ⟨gb223, 6, none⟩ (.slice A222_6 ((rd_T28 l0_6 x22_1).f4).length c222_6))) := ⟨bb_⟩
        (try clear HO_222006)
        (try clear BK219)
        (try clear BK220)
        (try clear BK221)
        (try clear BK223)
        (try clear HB)
        generalize (((((((w18.setCell ⟨gb223, 0, none⟩ (.int .i64 ((rd_T28 l0_6 x22_1).f0))).setCell ⟨gb223, 1, none⟩ (.int .i64 ((rd_T28 l0_6 x22_1).f1))).setCell ⟨gb223, 2, none⟩ (.int .i64 ((rd_T28 l0_6 x22_1).f2.f0))).setCell ⟨gb223, 3, none⟩ (.int .i64 ((rd_T28 l0_6 x22_1).f2.f1))).setCell ⟨gb223, 4, none⟩ (.string ((rd_T28 l0_6 x22_1).f2.f2))).setCell ⟨gb223, 5, none⟩ (.string ((rd_T28 l0_6 x22_1).f3))).setCell ⟨gb223, 6, none⟩ (.slice A222_6 ((rd_T28 l0_6 x22_1).f4).length c222_6)) = w23 at n0_ n1_ n2_ n3_ n4_ n5_ ⊢
        have HO_222006 := n0_
        have BK219 := n1_
        have BK220 := n2_
        have BK221 := n3_
        have BK223 := n4_
        have HB := n5_
        clear n0_ n1_ n2_ n3_ n4_ n5_
        replace HO_222006 := Aside0.mk (Kd.S_drew HO_222006.out)
        replace BK219 := Aside0.mk (blk_drew BK219.out)
        replace BK220 := Aside0.mk (blk_drew BK220.out)
        replace BK221 := Aside0.mk (blk_drew BK221.out)
        replace BK223 := Aside0.mk (blk_drew BK223.out)
        replace HB := Aside0.mk (below_drew1 HB.out)
        refine start_ (n := 10) (S := fun w' => w'.cell? ⟨gb221, 0, none⟩ = some (.int .i64 a0_0) ∧ w'.cell? ⟨gb221, 1, none⟩ = some (.int .i64 a0_1) ∧ w'.cell? ⟨gb221, 2, none⟩ = some (.int .i64 a0_2) ∧ w'.cell? ⟨gb221, 3, none⟩ = some (.int .i64 a0_3) ∧ w'.cell? ⟨gb221, 4, none⟩ = some (.string a0_4) ∧ w'.cell? ⟨gb221, 5, none⟩ = some (.string a0_5) ∧ w'.cell? ⟨gb221, 6, none⟩ = some (u222006) ∧ w'.cell? ⟨gb223, 0, none⟩ = some (.int .i64 ((rd_T28 l0_6 x22_1).f0)) ∧ w'.cell? ⟨gb223, 1, none⟩ = some (.int .i64 ((rd_T28 l0_6 x22_1).f1)) ∧ w'.cell? ⟨gb223, 2, none⟩ = some (.int .i64 ((rd_T28 l0_6 x22_1).f2.f0)) ∧ w'.cell? ⟨gb223, 3, none⟩ = some (.int .i64 ((rd_T28 l0_6 x22_1).f2.f1)) ∧ w'.cell? ⟨gb223, 4, none⟩ = some (.string ((rd_T28 l0_6 x22_1).f2.f2)) ∧ w'.cell? ⟨gb223, 5, none⟩ = some (.string ((rd_T28 l0_6 x22_1).f3)) ∧ w'.cell? ⟨gb223, 6, none⟩ = some (.slice A222_6 ((rd_T28 l0_6 x22_1).f4).length c222_6)) (ds := [9]) (tf 0 10) (by kernel_rfl) rfl rfl ⟨bc_ BK221 0, bc_ BK221 1, bc_ BK221 2, bc_ BK221 3, bc_ BK221 4, bc_ BK221 5, bc_ BK221 6, bc_ BK223 0, bc_ BK223 1, bc_ BK223 2, bc_ BK223 3, bc_ BK223 4, bc_ BK223 5, bc_ BK223 6⟩ (fun hHeld => ?_); refine with_tabW impl_ownExpAt.tab6 impl_ownExpAt.bits6 (fun HT_ HW_ => ?_)
        generalize w23.drew = w24 at HO_222006 BK219 BK220 BK221 BK223 HB hHeld ⊢
        refine pl_ ?_
        refine plx_ 3 #[true, false, false, true, false, false, false, false, false, false] ?_
        refine plx_ 4 #[true, false, false, true, true, false, false, false, false, false] ?_
        refine tlx_ 1 #[true, true, false, true, true, false, false, false, false, false] ?_
        refine tlx_ 2 (tf 5 5) ?_
        refine one_ (i := 5) (N := some 31) (tf 6 4) rfl rfl (one_of HT_.out (by kernel_rfl)) (by decide) (fun K hK => ?_)
        refine gs_ Try.func103 #[.agg #[.int .i64 ((rd_T28 l0_6 x22_1).f0), .int .i64 ((rd_T28 l0_6 x22_1).f1), .int .i64 ((rd_T28 l0_6 x22_1).f2.f0), .int .i64 ((rd_T28 l0_6 x22_1).f2.f1), .string ((rd_T28 l0_6 x22_1).f2.f2), .string ((rd_T28 l0_6 x22_1).f3), .slice A222_6 ((rd_T28 l0_6 x22_1).f4).length c222_6], .int .i64 (wrap64 (a1 + 1))] ?_
        with_reducible refine (ih k1 (by have := HK1.out; omega) ((rd_T28 l0_6 x22_1).f0) ((rd_T28 l0_6 x22_1).f1) ((rd_T28 l0_6 x22_1).f2.f0) ((rd_T28 l0_6 x22_1).f2.f1) ((rd_T28 l0_6 x22_1).f2.f2) ((rd_T28 l0_6 x22_1).f3) _ _ ((rd_T28 l0_6 x22_1).f4) (wrap64 (a1 + 1)) t224 t225 t226 t227 t228 t229 t230 _ ?side1 ?side2 A16.out).mono ?_
        (case side1 => exact ck_ (Kd.C_below HR222_6.out HB.out))
        (case side2 => exact HC222_6.out)
        rintro e w25 ⟨v231, rfl, ho0, hb⟩
        refine ⟨_, rfl, ?_⟩
        obtain ⟨nA0_, hn_, HN0_, HE0_⟩ := Kd.S_after_call ho0 (sk_ HO_222006.out) hb (below_size bb_)
        replace HN0_ := Aside0.mk HN0_
        replace HE0_ := Aside0.mk HE0_
        have hlgb219_ : Aside0 (gb219 < nA0_) := ⟨by rw [hn_]; exact blk_lt (bkx_ BK219.out)⟩
        have hlgb220_ : Aside0 (gb220 < nA0_) := ⟨by rw [hn_]; exact blk_lt (bkx_ BK220.out)⟩
        have hlgb221_ : Aside0 (gb221 < nA0_) := ⟨by rw [hn_]; exact blk_lt (bkx_ BK221.out)⟩
        have hlgb223_ : Aside0 (gb223 < nA0_) := ⟨by rw [hn_]; exact blk_lt (bkx_ BK223.out)⟩
        clear hn_
        have HO232 := Aside0.mk (Kd.S_lower (Kd.S_newB (Kd.S_newB (Kd.S_newB (Kd.S_newB (Kd.S_new' ho0 (Kd.S_lt (sk_ HO_222006.out))) (g := gb219) (o := .cells #[.int .i64 a0_0, .int .i64 a0_1, .int .i64 a0_2, .int .i64 a0_3, .string a0_4, .string a0_5, .slice (some ad222) l0_6.length c0_6] 28 (0, 0)) (bkx_ BK219.out)) (g := gb220) (o := .cells #[.int .i64 0, .int .i64 0, .int .i64 0, .int .i64 0, .string (⟨#[]⟩ : ByteArray), .string (⟨#[]⟩ : ByteArray), .slice none 0 0] 28 (0, 0)) (bkx_ BK220.out)) (g := gb221) (o := .cells #[.int .i64 a0_0, .int .i64 a0_1, .int .i64 a0_2, .int .i64 a0_3, .string a0_4, .string a0_5, u222006] 28 (0, 0)) (bkx_ BK221.out)) (g := gb223) (o := .cells #[.int .i64 ((rd_T28 l0_6 x22_1).f0), .int .i64 ((rd_T28 l0_6 x22_1).f1), .int .i64 ((rd_T28 l0_6 x22_1).f2.f0), .int .i64 ((rd_T28 l0_6 x22_1).f2.f1), .string ((rd_T28 l0_6 x22_1).f2.f2), .string ((rd_T28 l0_6 x22_1).f3), .slice A222_6 ((rd_T28 l0_6 x22_1).f4).length c222_6] 28 (0, 0)) (bkx_ BK223.out)) (below_size bb_))
        replace HO_222006 := Aside0.mk (Kd.S_elder' (sk_ HO_222006.out) (Kd.S_base ho0) hb)
        replace BK219 := bkb_ BK219 hb
        replace BK220 := bkb_ BK220 hb
        replace BK221 := bkb_ BK221 hb
        replace BK223 := bkb_ BK223 hb
        replace HB := bs_ hb
        (try clear hb)
        (try clear hb2)
        (try clear hk)
        (try clear hi)
        (try clear ho0)
        obtain ⟨Ao27, co27, eo27⟩ := Kd.S_slice HO232.out
        (first | subst eo27 | (injection eo27 with f1_ f2_ f3_; have f4_ := f1_.symm; have f5_ := f3_.symm; clear f1_ f2_ f3_; subst f4_; subst f5_))
        refine hK.out _ _ ⟨bc_ BK221 0, bc_ BK221 1, bc_ BK221 2, bc_ BK221 3, bc_ BK221 4, bc_ BK221 5, bc_ BK221 6, bc_ BK223 0, bc_ BK223 1, bc_ BK223 2, bc_ BK223 3, bc_ BK223 4, bc_ BK223 5, bc_ BK223 6⟩ (fun hHeld => ?_)
        clear hK K
        refine nm_ ?_
        refine one_ (i := 6) (N := some 32) (tf 7 3) rfl rfl (one_of HT_.out (by kernel_rfl)) (by decide) (fun K hK => ?_)
        refine value_ (w1 := ?_) (v := ?_) (by rfl) rfl ?_ ?_
        rotate_left 2
        ·go_simp
         constructor
         ·rfl
         ·rfl
        refine hK.out _ _ ⟨(blk_cell (blk_alloc BK221.out _) 0).trans rfl, (blk_cell (blk_alloc BK221.out _) 1).trans rfl, (blk_cell (blk_alloc BK221.out _) 2).trans rfl, (blk_cell (blk_alloc BK221.out _) 3).trans rfl, (blk_cell (blk_alloc BK221.out _) 4).trans rfl, (blk_cell (blk_alloc BK221.out _) 5).trans rfl, (blk_cell (blk_alloc BK221.out _) 6).trans rfl, (blk_cell (blk_alloc BK223.out _) 0).trans rfl, (blk_cell (blk_alloc BK223.out _) 1).trans rfl, (blk_cell (blk_alloc BK223.out _) 2).trans rfl, (blk_cell (blk_alloc BK223.out _) 3).trans rfl, (blk_cell (blk_alloc BK223.out _) 4).trans rfl, (blk_cell (blk_alloc BK223.out _) 5).trans rfl, (blk_cell (blk_alloc BK223.out _) 6).trans rfl⟩ (fun hHeld => ?_)
        clear hK K
        refine nm_ ?_
        refine one_ (i := 7) (N := some 33) (tf 8 2) rfl rfl (one_of HT_.out (by kernel_rfl)) (by decide) (fun K hK => ?_)
        refine Kd.S_append_step k28 (w0 := w) w.heap.size (by rfl) (.tmp 27) (.tmp 32) 26 28 (.agg #[(.int .i64 0), (.int .i64 0), (.int .i64 0), (.int .i64 0), (.string ⟨#[]⟩), (.string ⟨#[]⟩), (.slice none 0 0)]) 88 rfl Try.underlying26 info28 rfl (by decide) (by omega) u222006 x222006_1 (⟨t224, t225, (⟨t226, t227, t228⟩ : S25), t229, t230⟩ : S28) [.int .i64 t224, .int .i64 t225, .int .i64 t226, .int .i64 t227, .string t228, .string t229, .slice Ao27 t230.length co27] (fun k_ => k_ ≠ gb219 ∧ k_ ≠ gb220 ∧ k_ ≠ gb221 ∧ k_ ≠ gb223) (fun k_ => nA0_ ≤ k_) rfl rfl ?aP (fun k_ hk_ => ⟨⟨fun e_ => Nat.not_le.2 hlgb219_.out (e_ ▸ hk_), fun e_ => Nat.not_le.2 hlgb220_.out (e_ ▸ hk_), fun e_ => Nat.not_le.2 hlgb221_.out (e_ ▸ hk_), fun e_ => Nat.not_le.2 hlgb223_.out (e_ ▸ hk_)⟩, fun e_ => Nat.not_le.2 ((Kd.S_R HE0_.out).1 k_ e_.symm).2 hk_⟩) ?aF ?aO ?aB ?aS ?aL ?_
        (case aP => exact k28_mkM _ _ _ (⟨t224, t225, (⟨t226, t227, t228⟩ : S25), t229, t230⟩ : S28) (sk_ (Kd.S_mono HN0_.out (fun _ h_ => h_.2))))
        (case aB => exact bb_)
        (case aF => exact (fun k_ hk => ⟨Kd.freshB (g := gb219) (o := .cells #[.int .i64 a0_0, .int .i64 a0_1, .int .i64 a0_2, .int .i64 a0_3, .string a0_4, .string a0_5, .slice (some ad222) l0_6.length c0_6] 28 (0, 0)) (bkx_ BK219.out) k_ hk, Kd.freshB (g := gb220) (o := .cells #[.int .i64 0, .int .i64 0, .int .i64 0, .int .i64 0, .string (⟨#[]⟩ : ByteArray), .string (⟨#[]⟩ : ByteArray), .slice none 0 0] 28 (0, 0)) (bkx_ BK220.out) k_ hk, Kd.freshB (g := gb221) (o := .cells #[.int .i64 a0_0, .int .i64 a0_1, .int .i64 a0_2, .int .i64 a0_3, .string a0_4, .string a0_5, u222006] 28 (0, 0)) (bkx_ BK221.out) k_ hk, Kd.freshB (g := gb223) (o := .cells #[.int .i64 ((rd_T28 l0_6 x22_1).f0), .int .i64 ((rd_T28 l0_6 x22_1).f1), .int .i64 ((rd_T28 l0_6 x22_1).f2.f0), .int .i64 ((rd_T28 l0_6 x22_1).f2.f1), .string ((rd_T28 l0_6 x22_1).f2.f2), .string ((rd_T28 l0_6 x22_1).f3), .slice A222_6 ((rd_T28 l0_6 x22_1).f4).length c222_6] 28 (0, 0)) (bkx_ BK223.out) k_ hk⟩))
        (case aO => exact (sk_ (Kd.S_mono HE0_.out (fun k_ hk => ⟨⟨hk.1.1, ⟨hk.1.2.1, ⟨hk.1.2.2.1, hk.1.2.2.2⟩⟩⟩, Nat.not_le.2 hk.2⟩))))
        (case aS => exact (below_size bb_))
        (case aL => have := LMc17.out; omega)
        intro v234 w26 ho hb hg hat
        rw [← Ny233.out] at ho
        have HO235 := Aside0.mk (ho)
        replace BK219 := Aside0.mk (blk_grown (g := gb219) (o := .cells #[.int .i64 a0_0, .int .i64 a0_1, .int .i64 a0_2, .int .i64 a0_3, .string a0_4, .string a0_5, .slice (some ad222) l0_6.length c0_6] 28 (0, 0)) (bkx_ BK219.out) hg (Kd.S_away HO_222006.out (fun _ hk => hk.1.1)))
        replace BK220 := Aside0.mk (blk_grown (g := gb220) (o := .cells #[.int .i64 0, .int .i64 0, .int .i64 0, .int .i64 0, .string (⟨#[]⟩ : ByteArray), .string (⟨#[]⟩ : ByteArray), .slice none 0 0] 28 (0, 0)) (bkx_ BK220.out) hg (Kd.S_away HO_222006.out (fun _ hk => hk.1.2.1)))
        replace BK221 := Aside0.mk (blk_grown (g := gb221) (o := .cells #[.int .i64 a0_0, .int .i64 a0_1, .int .i64 a0_2, .int .i64 a0_3, .string a0_4, .string a0_5, u222006] 28 (0, 0)) (bkx_ BK221.out) hg (Kd.S_away HO_222006.out (fun _ hk => hk.1.2.2.1)))
        replace BK223 := Aside0.mk (blk_grown (g := gb223) (o := .cells #[.int .i64 ((rd_T28 l0_6 x22_1).f0), .int .i64 ((rd_T28 l0_6 x22_1).f1), .int .i64 ((rd_T28 l0_6 x22_1).f2.f0), .int .i64 ((rd_T28 l0_6 x22_1).f2.f1), .string ((rd_T28 l0_6 x22_1).f2.f2), .string ((rd_T28 l0_6 x22_1).f3), .slice A222_6 ((rd_T28 l0_6 x22_1).f4).length c222_6] 28 (0, 0)) (bkx_ BK223.out) hg (Kd.S_away HO_222006.out (fun _ hk => hk.1.2.2.2)))
        replace HB := Aside0.mk (hb)
        clear HO_222006 HO232
        clear ho hb hg hat
        obtain ⟨Ao28, co28, eo28⟩ := Kd.S_slice HO235.out
        (first | subst eo28 | (injection eo28 with f1_ f2_ f3_; have f4_ := f1_.symm; have f5_ := f3_.symm; clear f1_ f2_ f3_; subst f4_; subst f5_))
        refine hK.out _ _ ⟨bc_ BK221 0, bc_ BK221 1, bc_ BK221 2, bc_ BK221 3, bc_ BK221 4, bc_ BK221 5, bc_ BK221 6, bc_ BK223 0, bc_ BK223 1, bc_ BK223 2, bc_ BK223 3, bc_ BK223 4, bc_ BK223 5, bc_ BK223 6⟩ (fun hHeld => ?_)
        clear hK K
        refine nm_ ?_
        refine plx_ 8 (tf 9 1) ?_
        refine last_ (i := 9) (N := none) (tf 10 0) rfl rfl (one_of HT_.out (by kernel_rfl)) (by decide) (fun K hK => ?_)
        have hs29 : w26.cell? ⟨gb221, 6, none⟩ = some (u222006) := bc_ BK221 6
        have hfs29 := blk_frozen BK221.out 6
        have hns29_0 := NB219_221.out
        have hns29_1 := NB220_221.out
        have hns29_3 := NB223_221.out
        have hms29_0 := NB221_219.out
        have hms29_1 := NB221_220.out
        have hms29_3 := NB221_223.out
        refine skip_ (w1 := ?_) (by rfl) rfl ?_ ?_
        rotate_left
        ·go_simp
         rfl
        refine hK.out _ _ ?_
        clear hK K
        refine done_ (done_of HT_.out (by kernel_rfl)) ?_
        try go_wp2
        go_roundg k1
        case measure => have := HK1.out; omega
        case rel => exact ⟨(wrap64 (x22_1 + 1)), (y233), (.slice Ao28 y233.length co28), rs_, H', ⟨by have := HK1.out; omega⟩, ⟨by (with_reducible repeat (first | apply Kd.S_alloc | apply Kd.S_drewN | apply Kd.S_drew)); exact Kd.S_mono (Kd.S_far (p := ⟨gb221, 6, none⟩) (Kd.S_mono HO235.out (fun k_ hk => (⟨hk, hk.2.2.1⟩ : _ ∧ k_ ≠ gb221))) (fun _ hk => hk.2) (.slice Ao28 y233.length co28)) (fun _ hk => ⟨hk.1.1, ⟨hk.1.2.1, hk.1.2.2.1⟩⟩)⟩, ⟨(bf1_ NB219_221 (bkx_ BK219.out))⟩, ⟨(bf1_ NB220_221 (bkx_ BK220.out))⟩, ⟨by (with_reducible repeat (first | refine blk_drewN ?_ _ | refine blk_drew ?_ | refine blk_alloc ?_ _)); refine blk_put (cs := #[.int .i64 a0_0, .int .i64 a0_1, .int .i64 a0_2, .int .i64 a0_3, .string a0_4, .string a0_5, u222006]) ?_ 6 _ rfl; (with_reducible repeat (first | refine blk_drewN ?_ _ | refine blk_drew ?_ | refine blk_alloc ?_ _)); exact BK221.out⟩, ⟨bb_⟩⟩
       ·rw [if_neg c17] at H
        exact absurd H (by simp)
      ·rw [if_neg c15] at H
       exact absurd H (by simp)
     ·rw [if_neg c14] at H
      exact absurd H (by simp)
    ·rw [if_neg c13] at H
     have c13b0 : decide (x22_1 < (l0_6.length : Int)) = false := decide_eq_false c13
     clear c13
     simp only [Option.some.injEq, Prod.mk.injEq] at H
     obtain ⟨rfl, rfl, rfl, rfl, rfl, rfl, rfl⟩ := H
     have hnb30 := NB221_219.out
     have hnc30 := NB219_221.out
     have hnb31 := NB221_220.out
     have hnc31 := NB220_221.out
     obtain ⟨hcz32_0, hcz32_1, hcz32_2, hcz32_3, hcz32_4, hcz32_5, hcz32_6, hfz32_0, hfz32_1, hfz32_2, hfz32_3, hfz32_4, hfz32_5, hfz32_6⟩ := b7_ BK221
     have hnb33 := NB220_219.out
     have hnc33 := NB219_220.out
     obtain ⟨hcz34_0, hcz34_1, hcz34_2, hcz34_3, hcz34_4, hcz34_5, hcz34_6, hfz34_0, hfz34_1, hfz34_2, hfz34_3, hfz34_4, hfz34_5, hfz34_6⟩ := b7_ BK220
     obtain ⟨Ao35, co35, eo35⟩ := Kd.S_slice HO_222006.out
     subst eo35
     go_wp2
     refine bodyPost_ret (results_cell_row rfl _ _ gb220 28 #[.int .i64 a0_0, .int .i64 a0_1, .int .i64 a0_2, .int .i64 a0_3, .string a0_4, .string a0_5, .slice Ao35 x222006_1.length co35] (0, 0) _ rfl (bp7_ (bkx_ BK220.out)) Try.underlying28 rfl (by kernel_rfl)) rfl ?_
     exact ⟨_, by first | rfl | (simp [errW_none, errW_some] <;> rfl) | (simp [*, errW_none, errW_some] <;> rfl), by (with_reducible repeat (first | apply Kd.S_alloc | apply Kd.S_drewN | apply Kd.S_drew)); exact Kd.S_mono (Kd.S_far (p := ⟨gb220, 6, none⟩) (Kd.S_far (p := ⟨gb220, 5, none⟩) (Kd.S_far (p := ⟨gb220, 4, none⟩) (Kd.S_far (p := ⟨gb220, 3, none⟩) (Kd.S_far (p := ⟨gb220, 2, none⟩) (Kd.S_far (p := ⟨gb220, 1, none⟩) (Kd.S_far (p := ⟨gb220, 0, none⟩) (Kd.S_mono HO_222006.out (fun k_ hk => (⟨hk, hk.2.1⟩ : _ ∧ k_ ≠ gb220))) (fun _ hk => hk.2) (.int .i64 a0_0)) (fun _ hk => hk.2) (.int .i64 a0_1)) (fun _ hk => hk.2) (.int .i64 a0_2)) (fun _ hk => hk.2) (.int .i64 a0_3)) (fun _ hk => hk.2) (.string a0_4)) (fun _ hk => hk.2) (.string a0_5)) (fun _ hk => hk.2) (.slice Ao35 x222006_1.length co35)) (fun _ hk => trivial), by repeat (first | (with_reducible first | exact HB.out | apply below_alloc | apply pw_below_drewN | apply below_drew1 | refine below_set ?_ GE219.out | refine below_set ?_ GE220.out | refine below_set ?_ GE221.out) | exact HB.out)⟩
 ·rw [if_neg c3] at H
  have c3b0 : decide (a1 < 40) = false := decide_eq_false c3
  clear c3
  simp only [Option.some.injEq, Prod.mk.injEq] at H
  obtain ⟨rfl, rfl, rfl, rfl, rfl, rfl, rfl⟩ := H
  go_enter Try.func103, Try.ntmps103
  go_wp2_with (first | ((with_reducible refine gate_dst (N := 2) rfl ?_); refine bx_ 2 #[.int .i64 a0_0, .int .i64 a0_1, .int .i64 a0_2, .int .i64 a0_3, .string a0_4, .string a0_5, .slice A0_6 l0_6.length c0_6] 28 ?_; intro gb219 hg w36 hbox hb; have BK219 := Aside0.mk (hbox); have GW219 := gw_ hg; have GE219 := gw_ hg; replace HB := bs_ hb; clear hb hbox hg) | ((with_reducible refine gate_dst (N := 4) rfl ?_); refine bx_ 4 #[.int .i64 0, .int .i64 0, .int .i64 0, .int .i64 0, .string (⟨#[]⟩ : ByteArray), .string (⟨#[]⟩ : ByteArray), .slice none 0 0] 28 ?_; intro gb220 hg w37 hbox hb; have BK220 := Aside0.mk (hbox); have GW220 := gw_ hg; have GE220 := gw_ hg; have NB219_220 := nl_ hg BK219; have NB220_219 := ng_ hg BK219; replace BK219 := bkb_ BK219 hb; replace HB := bs_ hb; clear hb hbox hg; have hnb38 := NB219_220.out; have hnc38 := NB220_219.out; obtain ⟨hcz39_0, hcz39_1, hcz39_2, hcz39_3, hcz39_4, hcz39_5, hcz39_6, hfz39_0, hfz39_1, hfz39_2, hfz39_3, hfz39_4, hfz39_5, hfz39_6⟩ := b7_ BK219) | ((with_reducible refine gate_dst (N := 5) rfl ?_); refine bx_ 5 #[.int .i64 0, .int .i64 0, .int .i64 0, .int .i64 0, .string (⟨#[]⟩ : ByteArray), .string (⟨#[]⟩ : ByteArray), .slice none 0 0] 28 ?_; intro gb221 hg w40 hbox hb; have BK221 := Aside0.mk (hbox); have GW221 := gw_ hg; have GE221 := gw_ hg; have NB219_221 := nl_ hg BK219; have NB221_219 := ng_ hg BK219; have NB220_221 := nl_ hg BK220; have NB221_220 := ng_ hg BK220; replace BK219 := bkb_ BK219 hb; replace BK220 := bkb_ BK220 hb; replace HB := bs_ hb; clear hb hbox hg; have hnb41 := NB221_219.out; have hnc41 := NB219_221.out; have hnb42 := NB221_220.out; have hnc42 := NB220_221.out; obtain ⟨hcz43_0, hcz43_1, hcz43_2, hcz43_3, hcz43_4, hcz43_5, hcz43_6, hfz43_0, hfz43_1, hfz43_2, hfz43_3, hfz43_4, hfz43_5, hfz43_6⟩ := b7_ BK221; obtain ⟨hcz44_0, hcz44_1, hcz44_2, hcz44_3, hcz44_4, hcz44_5, hcz44_6, hfz44_0, hfz44_1, hfz44_2, hfz44_3, hfz44_4, hfz44_5, hfz44_6⟩ := b7_ BK220))
  refine bodyPost_ret (results_cell_row rfl _ _ gb220 28 #[.int .i64 a0_0, .int .i64 a0_1, .int .i64 a0_2, .int .i64 a0_3, .string a0_4, .string a0_5, .slice none 0 0] (0, 0) _ rfl (by (with_reducible repeat (first | refine blk_drewN ?_ _ | refine blk_drew ?_ | refine blk_alloc ?_ _)); refine blk_put (cs := #[.int .i64 a0_0, .int .i64 a0_1, .int .i64 a0_2, .int .i64 a0_3, .string a0_4, .string a0_5, .slice none 0 0]) ?_ 6 _ rfl; (with_reducible repeat (first | refine blk_drewN ?_ _ | refine blk_drew ?_ | refine blk_alloc ?_ _)); refine blk_put (cs := #[.int .i64 a0_0, .int .i64 a0_1, .int .i64 a0_2, .int .i64 a0_3, .string a0_4, .string (⟨#[]⟩ : ByteArray), .slice none 0 0]) ?_ 5 _ rfl; (with_reducible repeat (first | refine blk_drewN ?_ _ | refine blk_drew ?_ | refine blk_alloc ?_ _)); refine blk_put (cs := #[.int .i64 a0_0, .int .i64 a0_1, .int .i64 a0_2, .int .i64 a0_3, .string (⟨#[]⟩ : ByteArray), .string (⟨#[]⟩ : ByteArray), .slice none 0 0]) ?_ 4 _ rfl; (with_reducible repeat (first | refine blk_drewN ?_ _ | refine blk_drew ?_ | refine blk_alloc ?_ _)); refine blk_put (cs := #[.int .i64 a0_0, .int .i64 a0_1, .int .i64 a0_2, .int .i64 0, .string (⟨#[]⟩ : ByteArray), .string (⟨#[]⟩ : ByteArray), .slice none 0 0]) ?_ 3 _ rfl; (with_reducible repeat (first | refine blk_drewN ?_ _ | refine blk_drew ?_ | refine blk_alloc ?_ _)); refine blk_put (cs := #[.int .i64 a0_0, .int .i64 a0_1, .int .i64 0, .int .i64 0, .string (⟨#[]⟩ : ByteArray), .string (⟨#[]⟩ : ByteArray), .slice none 0 0]) ?_ 2 _ rfl; (with_reducible repeat (first | refine blk_drewN ?_ _ | refine blk_drew ?_ | refine blk_alloc ?_ _)); refine blk_put (cs := #[.int .i64 a0_0, .int .i64 0, .int .i64 0, .int .i64 0, .string (⟨#[]⟩ : ByteArray), .string (⟨#[]⟩ : ByteArray), .slice none 0 0]) ?_ 1 _ rfl; (with_reducible repeat (first | refine blk_drewN ?_ _ | refine blk_drew ?_ | refine blk_alloc ?_ _)); refine blk_put (cs := #[.int .i64 0, .int .i64 0, .int .i64 0, .int .i64 0, .string (⟨#[]⟩ : ByteArray), .string (⟨#[]⟩ : ByteArray), .slice none 0 0]) ?_ 0 _ rfl; (with_reducible repeat (first | refine blk_drewN ?_ _ | refine blk_drew ?_ | refine blk_alloc ?_ _)); refine blk_far ?_ NB220_221.out _; (with_reducible repeat (first | refine blk_drewN ?_ _ | refine blk_drew ?_ | refine blk_alloc ?_ _)); refine blk_far ?_ NB220_221.out _; (with_reducible repeat (first | refine blk_drewN ?_ _ | refine blk_drew ?_ | refine blk_alloc ?_ _)); refine blk_far ?_ NB220_221.out _; (with_reducible repeat (first | refine blk_drewN ?_ _ | refine blk_drew ?_ | refine blk_alloc ?_ _)); refine blk_far ?_ NB220_221.out _; (with_reducible repeat (first | refine blk_drewN ?_ _ | refine blk_drew ?_ | refine blk_alloc ?_ _)); refine blk_far ?_ NB220_221.out _; (with_reducible repeat (first | refine blk_drewN ?_ _ | refine blk_drew ?_ | refine blk_alloc ?_ _)); refine blk_far ?_ NB220_221.out _; (with_reducible repeat (first | refine blk_drewN ?_ _ | refine blk_drew ?_ | refine blk_alloc ?_ _)); refine blk_far ?_ NB220_221.out _; (with_reducible repeat (first | refine blk_drewN ?_ _ | refine blk_drew ?_ | refine blk_alloc ?_ _)); exact BK220.out) Try.underlying28 rfl (by kernel_rfl)) rfl ?_
  exact ⟨_, by first | rfl | (simp [errW_none, errW_some] <;> rfl) | (simp [*, errW_none, errW_some] <;> rfl), by first | exact Kd.S_nil _ _ _ _ _ | exact Kd.N_nil _ _ _ _ _ | exact Kd.V_nil _ _ _ _ _ | exact Kd.Q_nil _ _ _ _ _ | exact Kd.R_nil _ _ _ _ _, by repeat (first | (with_reducible first | exact HB.out | apply below_alloc | apply pw_below_drewN | apply below_drew1 | refine below_set ?_ GE219.out | refine below_set ?_ GE220.out | refine below_set ?_ GE221.out) | exact HB.out)⟩

/-! ### impl_ownExp: function 73 -/
def impl_ownExp.f (k : Nat) (a0_0 : Int) (a0_1 : Int) (a0_2 : Int) (a0_3 : Int) (a0_4 : ByteArray) (a0_5 : ByteArray) (l0_6 : List (S28)) : Option (Int × Int × Int × Int × ByteArray × ByteArray × (List (S28))) := (impl_ownExpAt.f k a0_0 a0_1 a0_2 a0_3 a0_4 a0_5 l0_6 0).bind fun bt238 => (some (bt238.1, bt238.2.1, bt238.2.2.1, bt238.2.2.2.1, bt238.2.2.2.2.1, bt238.2.2.2.2.2.1, bt238.2.2.2.2.2.2))
set_option maxHeartbeats 8000000 in
set_option maxRecDepth 100000 in
theorem impl_ownExp.calls (k : Nat) (a0_0 : Int) (a0_1 : Int) (a0_2 : Int) (a0_3 : Int) (a0_4 : ByteArray) (a0_5 : ByteArray) (A0_6 : Option Addr) (c0_6 : Nat) (l0_6 : List (S28)) (r1 : Int) (r2 : Int) (r3 : Int) (r4 : Int) (r5 : ByteArray) (r6 : ByteArray) (r7 : List (S28)) (w : World) (hr0_6 : Kd.C k28 w A0_6 l0_6.length l0_6) (hc0_6 : l0_6.length ≤ c0_6) (h : impl_ownExp.f k a0_0 a0_1 a0_2 a0_3 a0_4 a0_5 l0_6 = some (r1, r2, r3, r4, r5, r6, r7)) :
  Calls Try.prog 73 #[.agg #[.int .i64 a0_0, .int .i64 a0_1, .int .i64 a0_2, .int .i64 a0_3, .string a0_4, .string a0_5, .slice A0_6 l0_6.length c0_6]] w fun e w' => ∃ v6_ : Value, e = .returned (.agg #[.int .i64 r1, .int .i64 r2, .int .i64 r3, .int .i64 r4, .string r5, .string r6, v6_]) ∧ Kd.S k28 28 w' w.heap.size (fun _ => True) v6_ r7 ∧ Below w.heap.size w w' := by
 have hu28 := Try.underlying28
 have HR0_6 := Aside0.mk hr0_6
 have HC0_6 := Aside0.mk hc0_6
 clear hr0_6 hc0_6
 have HB := Aside0.mk (Below.refl w.heap.size w)
 have H : ((impl_ownExpAt.f k a0_0 a0_1 a0_2 a0_3 a0_4 a0_5 l0_6 0).bind fun bt238 => (some (bt238.1, bt238.2.1, bt238.2.2.1, bt238.2.2.2.1, bt238.2.2.2.2.1, bt238.2.2.2.2.2.1, bt238.2.2.2.2.2.2))) = some (r1, r2, r3, r4, r5, r6, r7) := h
 clear h
 replace H := Option.bind_eq_some_iff.mp H
 obtain ⟨⟨t238, t239, t240, t241, t242, t243, t244⟩, A20, H⟩ := H
 replace H : (some (t238, t239, t240, t241, t242, t243, t244)) = some (r1, r2, r3, r4, r5, r6, r7) := H
 have A2 := Aside0.mk A20
 clear A20
 simp only [Option.some.injEq, Prod.mk.injEq] at H
 obtain ⟨rfl, rfl, rfl, rfl, rfl, rfl, rfl⟩ := H
 go_enter Try.func73, Try.ntmps73
 go_wp2_with (first | ((with_reducible refine gate_dst (N := 1) rfl ?_); refine bx_ 1 #[.int .i64 a0_0, .int .i64 a0_1, .int .i64 a0_2, .int .i64 a0_3, .string a0_4, .string a0_5, .slice A0_6 l0_6.length c0_6] 28 ?_; intro gb236 hg w3 hbox hb; have BK236 := Aside0.mk (hbox); have GW236 := gw_ hg; have GE236 := gw_ hg; replace HB := bs_ hb; clear hb hbox hg) | ((with_reducible refine gate_dst (N := 2) rfl ?_); refine bx_ 2 #[.int .i64 0, .int .i64 0, .int .i64 0, .int .i64 0, .string (⟨#[]⟩ : ByteArray), .string (⟨#[]⟩ : ByteArray), .slice none 0 0] 28 ?_; intro gb237 hg w4 hbox hb; have BK237 := Aside0.mk (hbox); have GW237 := gw_ hg; have GE237 := gw_ hg; have NB236_237 := nl_ hg BK236; have NB237_236 := ng_ hg BK236; replace BK236 := bkb_ BK236 hb; replace HB := bs_ hb; clear hb hbox hg; have hnb5 := NB236_237.out; have hnc5 := NB237_236.out; obtain ⟨hcz6_0, hcz6_1, hcz6_2, hcz6_3, hcz6_4, hcz6_5, hcz6_6, hfz6_0, hfz6_1, hfz6_2, hfz6_3, hfz6_4, hfz6_5, hfz6_6⟩ := b7_ BK236) | ((with_reducible refine gate_callee (f := 103) rfl ?_); refine gsL_ (some 4) Try.func103 #[.agg #[.int .i64 a0_0, .int .i64 a0_1, .int .i64 a0_2, .int .i64 a0_3, .string a0_4, .string a0_5, .slice A0_6 l0_6.length c0_6], .int .i64 0] ?_; (with_reducible refine (impl_ownExpAt.calls k a0_0 a0_1 a0_2 a0_3 a0_4 a0_5 _ _ l0_6 0 t238 t239 t240 t241 t242 t243 t244 _ ?side1 ?side2 A2.out).mono ?_); (case side1 => exact ck_ (Kd.C_below HR0_6.out HB.out)); (case side2 => exact HC0_6.out); rintro e w7 ⟨v245, rfl, ho0, hb⟩; refine ⟨_, rfl, ?_⟩; have HO246 := Aside0.mk (Kd.S_lower (Kd.S_newB (Kd.S_newB ho0 (g := gb236) (o := .cells #[.int .i64 a0_0, .int .i64 a0_1, .int .i64 a0_2, .int .i64 a0_3, .string a0_4, .string a0_5, .slice A0_6 l0_6.length c0_6] 28 (0, 0)) (bkx_ BK236.out)) (g := gb237) (o := .cells #[.int .i64 0, .int .i64 0, .int .i64 0, .int .i64 0, .string (⟨#[]⟩ : ByteArray), .string (⟨#[]⟩ : ByteArray), .slice none 0 0] 28 (0, 0)) (bkx_ BK237.out)) (below_size bb_)); replace BK236 := bkb_ BK236 hb; replace BK237 := bkb_ BK237 hb; replace HB := bs_ hb; (try clear hb); (try clear hb2); (try clear hk); (try clear hi); (try clear ho0); obtain ⟨hcz8_0, hcz8_1, hcz8_2, hcz8_3, hcz8_4, hcz8_5, hcz8_6, hfz8_0, hfz8_1, hfz8_2, hfz8_3, hfz8_4, hfz8_5, hfz8_6⟩ := b7_ BK237; obtain ⟨Ao9, co9, eo9⟩ := Kd.S_slice HO246.out; subst eo9))
 refine bodyPost_ret (results_cell_row rfl _ _ gb237 28 #[.int .i64 t238, .int .i64 t239, .int .i64 t240, .int .i64 t241, .string t242, .string t243, .slice Ao9 t244.length co9] (0, 0) _ rfl (bp7_ (bkx_ BK237.out)) Try.underlying28 rfl (by kernel_rfl)) rfl ?_
 exact ⟨_, by first | rfl | (simp [errW_none, errW_some] <;> rfl) | (simp [*, errW_none, errW_some] <;> rfl), by (with_reducible repeat (first | apply Kd.S_alloc | apply Kd.S_drewN | apply Kd.S_drew)); exact Kd.S_mono (Kd.S_far (p := ⟨gb237, 6, none⟩) (Kd.S_far (p := ⟨gb237, 5, none⟩) (Kd.S_far (p := ⟨gb237, 4, none⟩) (Kd.S_far (p := ⟨gb237, 3, none⟩) (Kd.S_far (p := ⟨gb237, 2, none⟩) (Kd.S_far (p := ⟨gb237, 1, none⟩) (Kd.S_far (p := ⟨gb237, 0, none⟩) (Kd.S_mono HO246.out (fun k_ hk => (⟨hk, hk.2⟩ : _ ∧ k_ ≠ gb237))) (fun _ hk => hk.2) (.int .i64 t238)) (fun _ hk => hk.2) (.int .i64 t239)) (fun _ hk => hk.2) (.int .i64 t240)) (fun _ hk => hk.2) (.int .i64 t241)) (fun _ hk => hk.2) (.string t242)) (fun _ hk => hk.2) (.string t243)) (fun _ hk => hk.2) (.slice Ao9 t244.length co9)) (fun _ hk => trivial), by repeat (first | (with_reducible first | exact HB.out | apply below_alloc | apply pw_below_drewN | apply below_drew1 | refine below_set ?_ GE236.out | refine below_set ?_ GE237.out) | exact HB.out)⟩

end Go.Proofs.Ytapgfamppnhnmaa.PFnExactAndAll
