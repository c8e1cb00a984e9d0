-- WRITTEN BY xprint.py, a program of this session over the kit's printer: by nobody's hand
-- PRESSED
import Derived.Test.YtapgfamppnhnmaaPress
import Derived.Test.YtapgfamppnhnmaaPFnExactChangeOkx0
import Derived.Test.YtapgfamppnhnmaaPFnExactChangeOkx3
import Derived.Test.YtapgfamppnhnmaaPFnExactChangeOkx4
import Derived.Test.YtapgfamppnhnmaaPFnExactChangeOkx5
import Derived.Test.YtapgfamppnhnmaaPFnExactChangeOkx6
import Derived.Test.YtapgfamppnhnmaaPFnExactChangeOkx8
namespace Go.Proofs.Ytapgfamppnhnmaa.PFnExactChangeOk
open Go.RowKit Go.Proofs.YtapgfamppnhnmaaW.PrintWords Go.Proofs.YtapgfamppnhnmaaW.PrintLast Go.Proofs.YtapgfamppnhnmaaW.PrintMore
attribute [local go_sem] max2_int min2_int max_two min_two max_three min_three max_four min_four   -- for this text's walks alone
set_option linter.unusedVariables false
set_option linter.unusedSimpArgs false
attribute [local go_sem] leq_str geq_str

/-! ### spec_ChangeOk: function 25 -/
def spec_ChangeOk.l0 : Nat → List (S91) → List (S91) → Int → Option (Bool)
 | 0, _, _, _ => none
 | k + 1, x0, x1, x5 => if x5 < (x1.length : Int) then (if 0 ≤ x5 then ((spec_l04Rel.f k x0 ((rd_T91 x1 x5).f0)).bind fun bt177 => (if bt177.2.2 = true then (if bt177.1 = ((rd_T91 x1 x5).f1.f0) then ((spec_BagOk.f k ((rd_T91 x1 x5).f1.f0) ((rd_T91 x1 x5).f1.f1)).bind fun t185 => (if t185 = true then (if x5 > 0 then (if 0 ≤ (wrap64 (x5 - 1)) then (if (wrap64 (x5 - 1)) < (x1.length : Int) then (if ((Op.bytesLess (((rd_T91 x1 (wrap64 (x5 - 1))).f0).toList) (((rd_T91 x1 x5).f0).toList)) = true) then ((spec_l02Sum.f k bt177.1 bt177.2.1 ((rd_T91 x1 x5).f1.f0) ((rd_T91 x1 x5).f1.f1) 1).bind fun bt189 => ((spec_Plain.f k bt189.1 bt189.2).bind fun t193 => (if t193 = true then (spec_ChangeOk.l0 k x0 x1 (wrap64 (x5 + 1))) else (some false)))) else (some false)) else (none)) else (none)) else ((spec_l02Sum.f k bt177.1 bt177.2.1 ((rd_T91 x1 x5).f1.f0) ((rd_T91 x1 x5).f1.f1) 1).bind fun bt195 => ((spec_Plain.f k bt195.1 bt195.2).bind fun t199 => (if t199 = true then (spec_ChangeOk.l0 k x0 x1 (wrap64 (x5 + 1))) else (some false))))) else (some false))) else (some false)) else (some false))) else (none)) else (some true)
def spec_ChangeOk.f (k : Nat) (l0 : List (S91)) (l1 : List (S91)) : Option (Bool) := (spec_DbOk.f k l0).bind fun t175 => (if t175 = true then (spec_ChangeOk.l0 k l0 l1 0) else (some false))
def spec_ChangeOk.T7 : Bool × List (List Nat × List Nat) := (true, [([], []), ([0], [0]), ([1], [1]), ([2], [2]), ([3, 2], [2, 3]), ([2], [2]), ([2], [2]), ([5, 6, 2], [2, 5, 6]), ([7, 2], [2, 7]), ([8, 2], [2, 8]), ([9, 2], [2, 9]), ([4, 10, 2], [2, 4, 10]), ([2, 11], [2, 11]), ([12, 2], [12]), ([13], [13]), ([13], [13]), ([14, 15, 13], [13, 14, 15]), ([16, 13], [13, 16]), ([17, 13], [13, 17]), ([18, 13, 13], [13, 18]), ([19, 13], [13, 19]), ([13, 20], [13, 20]), ([21, 19], [21]), ([22], [22]), ([23, 22], [22, 23]), ([24, 22, 22], [22, 24]), ([25], [25]), ([25], [25]), ([26, 27, 25], [25, 26, 27]), ([28, 25], [25, 28]), ([29, 25], [25, 29]), ([25], [25]), ([25], [25]), ([32, 25], [25, 32]), ([31, 33, 25], [25, 31, 33]), ([34, 25], [25, 34]), ([35, 25], [25, 35]), ([30, 36, 25], [25, 30, 36]), ([25, 37, 22], [22, 25, 37]), ([22, 38], [22, 38]), ([39, 25], [39]), ([40], [40]), ([40], [40]), ([40], [40]), ([42, 43, 40], [40, 42, 43]), ([44, 40], [40, 44]), ([45, 40], [40, 45]), ([41, 46, 40, 40], [40, 41, 46]), ([47, 47, 40], [40, 47]), ([48, 40], [40, 48]), ([40, 49], [40, 49])])
def spec_ChangeOk.B7 : List Nat := [0, 1, 3, 7, 15, 7, 7, 103, 231, 487, 999, 2047, 4095, 8191, 16383, 16383, 65535, 131071, 262143, 524287, 1048575, 2097151, 4194303, 8388607, 16777215, 33554431, 67108863, 67108863, 268435455, 536870911, 1073741823, 67108863, 67108863, 4362076159, 15099494399, 32279363583, 66639101951, 137438953471, 274877906943, 549755813887, 1099511627775, 2199023255551, 2199023255551, 2199023255551, 15393162788863, 32985348833279, 68169720922111, 140737488355327, 281474976710655, 562949953421311, 1125899906842623]
theorem spec_ChangeOk.tab7 : rtab .any (opsOf Try.f25 7) = spec_ChangeOk.T7 := by kernel_rfl
theorem spec_ChangeOk.bits7 : waitsOk spec_ChangeOk.T7.2 spec_ChangeOk.B7 = true := by kernel_rfl
set_option maxHeartbeats 8000000 in
set_option maxRecDepth 100000 in
theorem spec_ChangeOk.calls (k : Nat) (A0 : Option Addr) (c0 : Nat) (l0 : List (S91)) (A1 : Option Addr) (c1 : Nat) (l1 : List (S91)) (r : Bool) (w : World) (hr0 : Kd.C k91 w A0 l0.length l0) (hc0 : l0.length ≤ c0) (hr1 : Kd.C k91 w A1 l1.length l1) (hc1 : l1.length ≤ c1) (h : spec_ChangeOk.f k l0 l1 = some r) :
  Calls Try.prog 25 #[.slice A0 l0.length c0, .slice A1 l1.length c1] w fun e w' => e = .returned (.bool r) ∧ Below w.heap.size w w' := by
 have hu40 := Try.underlying40
 have HR0 := Aside0.mk hr0
 have HC0 := Aside0.mk hc0
 clear hr0 hc0
 have HR1 := Aside0.mk hr1
 have HC1 := Aside0.mk hc1
 clear hr1 hc1
 have HB := Aside0.mk (Below.refl w.heap.size w)
 have H : ((spec_DbOk.f k l0).bind fun t175 => (if t175 = true then (spec_ChangeOk.l0 k l0 l1 0) else (some false))) = some r := h
 clear h
 replace H := Option.bind_eq_some_iff.mp H
 obtain ⟨t175, A30, H⟩ := H
 replace H : (if t175 = true then (spec_ChangeOk.l0 k l0 l1 0) else (some false)) = some r := H
 have A3 := Aside0.mk A30
 clear A30
 by_cases c4 : t175 = true
 ·subst c4
  have H1 : (spec_ChangeOk.l0 k l0 l1 0) = some r := by rw [if_pos rfl] at H; exact H
  clear H
  have H := H1
  clear H1
  have H' := Aside0.mk H
  clear H
  go_enter Try.func25, Try.ntmps25
  go_wp2_with (first | ((with_reducible refine gate_callee (f := 54) rfl ?_); refine gsL_ (some 9) Try.func54 #[.slice A0 l0.length c0] ?_; (with_reducible refine (spec_DbOk.calls k _ _ l0 true _ ?side1 ?side2 A3.out).mono ?_); (case side1 => exact ck_ HR0.out); (case side2 => exact HC0.out); rintro e w5 ⟨rfl, hb⟩; refine ⟨_, rfl, ?_⟩; replace HB := bs_ hb; (try clear hb); (try clear hb2); (try clear hk); (try clear hi)))
  go_loopg [5] k (fun kq v5 w' => ∃ (x5_1 : Int), v5 = .int .i64 x5_1 ∧ Aside0 (spec_ChangeOk.l0 kq l0 l1 x5_1 = some r) ∧ Aside0 (kq ≤ k) ∧ Aside0 (Below w.heap.size w w'))
  case atStart => exact ⟨(0), rs_, H', ⟨Nat.le_refl _⟩, ⟨bb_⟩⟩
  case round =>
   clear H'
   try clear c1
   try clear c2
   try clear p2
   try clear c4
   try clear c5
   obtain ⟨x5_1, rfl, HA, HK1, HB⟩ := hrel
   cases gk with
   | zero => exact absurd HA.out (by simp [spec_ChangeOk.l0])
   | succ k1 =>
    have H := HA.out
    clear HA
    simp only [spec_ChangeOk.l0] at H
    by_cases c6 : x5_1 < (l1.length : Int)
    ·rw [if_pos c6] at H
     have c6b0 : decide (x5_1 < (l1.length : Int)) = true := decide_eq_true c6
     clear c6
     by_cases c7 : 0 ≤ x5_1
     ·rw [if_pos c7] at H
      have c7b0 : decide (0 ≤ x5_1) = true := decide_eq_true c7
      clear c7
      replace H := Option.bind_eq_some_iff.mp H
      obtain ⟨⟨t177, t178, t181⟩, A80, H⟩ := H
      replace H : (if t181 = true then (if t177 = ((rd_T91 l1 x5_1).f1.f0) then ((spec_BagOk.f k1 ((rd_T91 l1 x5_1).f1.f0) ((rd_T91 l1 x5_1).f1.f1)).bind fun t185 => (if t185 = true then (if x5_1 > 0 then (if 0 ≤ (wrap64 (x5_1 - 1)) then (if (wrap64 (x5_1 - 1)) < (l1.length : Int) then (if ((Op.bytesLess (((rd_T91 l1 (wrap64 (x5_1 - 1))).f0).toList) (((rd_T91 l1 x5_1).f0).toList)) = true) then ((spec_l02Sum.f k1 t177 t178 ((rd_T91 l1 x5_1).f1.f0) ((rd_T91 l1 x5_1).f1.f1) 1).bind fun bt189 => ((spec_Plain.f k1 bt189.1 bt189.2).bind fun t193 => (if t193 = true then (spec_ChangeOk.l0 k1 l0 l1 (wrap64 (x5_1 + 1))) else (some false)))) else (some false)) else (none)) else (none)) else ((spec_l02Sum.f k1 t177 t178 ((rd_T91 l1 x5_1).f1.f0) ((rd_T91 l1 x5_1).f1.f1) 1).bind fun bt195 => ((spec_Plain.f k1 bt195.1 bt195.2).bind fun t199 => (if t199 = true then (spec_ChangeOk.l0 k1 l0 l1 (wrap64 (x5_1 + 1))) else (some false))))) else (some false))) else (some false)) else (some false)) = some r := H
      have A8 := Aside0.mk A80
      clear A80
      by_cases c9 : t181 = true
      ·subst c9
       have H1 : (if t177 = ((rd_T91 l1 x5_1).f1.f0) then ((spec_BagOk.f k1 ((rd_T91 l1 x5_1).f1.f0) ((rd_T91 l1 x5_1).f1.f1)).bind fun t185 => (if t185 = true then (if x5_1 > 0 then (if 0 ≤ (wrap64 (x5_1 - 1)) then (if (wrap64 (x5_1 - 1)) < (l1.length : Int) then (if ((Op.bytesLess (((rd_T91 l1 (wrap64 (x5_1 - 1))).f0).toList) (((rd_T91 l1 x5_1).f0).toList)) = true) then ((spec_l02Sum.f k1 t177 t178 ((rd_T91 l1 x5_1).f1.f0) ((rd_T91 l1 x5_1).f1.f1) 1).bind fun bt189 => ((spec_Plain.f k1 bt189.1 bt189.2).bind fun t193 => (if t193 = true then (spec_ChangeOk.l0 k1 l0 l1 (wrap64 (x5_1 + 1))) else (some false)))) else (some false)) else (none)) else (none)) else ((spec_l02Sum.f k1 t177 t178 ((rd_T91 l1 x5_1).f1.f0) ((rd_T91 l1 x5_1).f1.f1) 1).bind fun bt195 => ((spec_Plain.f k1 bt195.1 bt195.2).bind fun t199 => (if t199 = true then (spec_ChangeOk.l0 k1 l0 l1 (wrap64 (x5_1 + 1))) else (some false))))) else (some false))) else (some false)) = some r := by rw [if_pos rfl] at H; exact H
       clear H
       have H := H1
       clear H1
       by_cases c10 : t177 = ((rd_T91 l1 x5_1).f1.f0)
       ·rw [if_pos c10] at H
        have c10b0 : (t177 == ((rd_T91 l1 x5_1).f1.f0)) = true := beq_iff_eq.mpr c10
        have c10b1 : (t177 != ((rd_T91 l1 x5_1).f1.f0)) = false := bne_eq_false_iff_eq.mpr c10
        clear c10
        replace H := Option.bind_eq_some_iff.mp H
        obtain ⟨t185, A110, H⟩ := H
        replace H : (if t185 = true then (if x5_1 > 0 then (if 0 ≤ (wrap64 (x5_1 - 1)) then (if (wrap64 (x5_1 - 1)) < (l1.length : Int) then (if ((Op.bytesLess (((rd_T91 l1 (wrap64 (x5_1 - 1))).f0).toList) (((rd_T91 l1 x5_1).f0).toList)) = true) then ((spec_l02Sum.f k1 t177 t178 ((rd_T91 l1 x5_1).f1.f0) ((rd_T91 l1 x5_1).f1.f1) 1).bind fun bt189 => ((spec_Plain.f k1 bt189.1 bt189.2).bind fun t193 => (if t193 = true then (spec_ChangeOk.l0 k1 l0 l1 (wrap64 (x5_1 + 1))) else (some false)))) else (some false)) else (none)) else (none)) else ((spec_l02Sum.f k1 t177 t178 ((rd_T91 l1 x5_1).f1.f0) ((rd_T91 l1 x5_1).f1.f1) 1).bind fun bt195 => ((spec_Plain.f k1 bt195.1 bt195.2).bind fun t199 => (if t199 = true then (spec_ChangeOk.l0 k1 l0 l1 (wrap64 (x5_1 + 1))) else (some false))))) else (some false)) = some r := H
        have A11 := Aside0.mk A110
        clear A110
        by_cases c12 : t185 = true
        ·subst c12
         have H1 : (if x5_1 > 0 then (if 0 ≤ (wrap64 (x5_1 - 1)) then (if (wrap64 (x5_1 - 1)) < (l1.length : Int) then (if ((Op.bytesLess (((rd_T91 l1 (wrap64 (x5_1 - 1))).f0).toList) (((rd_T91 l1 x5_1).f0).toList)) = true) then ((spec_l02Sum.f k1 t177 t178 ((rd_T91 l1 x5_1).f1.f0) ((rd_T91 l1 x5_1).f1.f1) 1).bind fun bt189 => ((spec_Plain.f k1 bt189.1 bt189.2).bind fun t193 => (if t193 = true then (spec_ChangeOk.l0 k1 l0 l1 (wrap64 (x5_1 + 1))) else (some false)))) else (some false)) else (none)) else (none)) else ((spec_l02Sum.f k1 t177 t178 ((rd_T91 l1 x5_1).f1.f0) ((rd_T91 l1 x5_1).f1.f1) 1).bind fun bt195 => ((spec_Plain.f k1 bt195.1 bt195.2).bind fun t199 => (if t199 = true then (spec_ChangeOk.l0 k1 l0 l1 (wrap64 (x5_1 + 1))) else (some false))))) = some r := by rw [if_pos rfl] at H; exact H
         clear H
         have H := H1
         clear H1
         by_cases c13 : x5_1 > 0
         ·rw [if_pos c13] at H
          have c13b0 : decide (0 < x5_1) = true := decide_eq_true c13
          clear c13
          obtain ⟨ji14, hji14⟩ : ∃ j_ : Int, (wrap64 (x5_1 - 1)) = j_ := ⟨_, rfl⟩
          replace H : (if 0 ≤ (ji14) then (if (ji14) < (l1.length : Int) then (if ((Op.bytesLess (((rd_T91 l1 (ji14)).f0).toList) (((rd_T91 l1 x5_1).f0).toList)) = true) then ((spec_l02Sum.f k1 t177 t178 ((rd_T91 l1 x5_1).f1.f0) ((rd_T91 l1 x5_1).f1.f1) 1).bind fun bt189 => ((spec_Plain.f k1 bt189.1 bt189.2).bind fun t193 => (if t193 = true then (spec_ChangeOk.l0 k1 l0 l1 (wrap64 (x5_1 + 1))) else (some false)))) else (some false)) else (none)) else (none)) = some r := by first | (rw [hji14] at H; exact H) | (simp only [hji14] at H ⊢; exact H)
          (try rw [hji14] at A8)
          (try rw [hji14] at A11)
          have hji14w : (IntKind.i64.wrap (x5_1 - 1)) = ji14 := (i64_w _).trans hji14
          by_cases c15 : 0 ≤ (ji14)
          ·rw [if_pos c15] at H
           have c15b0 : decide (0 ≤ (ji14)) = true := decide_eq_true c15
           clear c15
           by_cases c16 : (ji14) < (l1.length : Int)
           ·rw [if_pos c16] at H
            have c16b0 : decide ((ji14) < (l1.length : Int)) = true := decide_eq_true c16
            clear c16
            by_cases c17 : ((Op.bytesLess (((rd_T91 l1 (ji14)).f0).toList) (((rd_T91 l1 x5_1).f0).toList)) = true)
            ·rw [if_pos c17] at H
             have c17b0 : (Op.bytesLess (((rd_T91 l1 (ji14)).f0).toList) (((rd_T91 l1 x5_1).f0).toList)) = true := c17
             clear c17
             replace H := Option.bind_eq_some_iff.mp H
             obtain ⟨⟨t189, t190⟩, A180, H⟩ := H
             replace H : ((spec_Plain.f k1 t189 t190).bind fun t193 => (if t193 = true then (spec_ChangeOk.l0 k1 l0 l1 (wrap64 (x5_1 + 1))) else (some false))) = some r := H
             have A18 := Aside0.mk A180
             clear A180
             replace H := Option.bind_eq_some_iff.mp H
             obtain ⟨t193, A190, H⟩ := H
             replace H : (if t193 = true then (spec_ChangeOk.l0 k1 l0 l1 (wrap64 (x5_1 + 1))) else (some false)) = some r := H
             have A19 := Aside0.mk A190
             clear A190
             by_cases c20 : t193 = true
             ·subst c20
              have H1 : (spec_ChangeOk.l0 k1 l0 l1 (wrap64 (x5_1 + 1))) = some r := by rw [if_pos rfl] at H; exact H
              clear H
              have H := H1
              clear H1
              have H' := Aside0.mk H
              clear H
              have p176 : 0 ≤ (x5_1 : Int) := od_
              have q176 : x5_1 < (l1.length : Int) := od_
              obtain ⟨ad176, A176_2, c176_2, e176, hx176_0, hx176_1, hx176_2, hl176_2, hi176_2⟩ := at_T91 HR1.out x5_1 p176 q176
              cases e176
              replace hx176_0 := hb_ HB hx176_0
              replace hx176_1 := hb_ HB hx176_1
              replace hx176_2 := hb_ HB hx176_2
              have HR176_2 := Aside0.mk hi176_2
              have HC176_2 := Aside0.mk hl176_2
              clear hi176_2 hl176_2
              replace p176 := eq_true p176
              replace q176 := eq_true q176
              try go_wp2_with (first | ((with_reducible refine gate_callee (f := 55) rfl ?_); refine gsL_ (some 24) Try.func55 #[.slice A0 l0.length c0, .string ((rd_T91 l1 x5_1).f0)] ?_; (with_reducible refine (spec_l04Rel.calls k1 (fun k_ => k_ < w.heap.size) _ _ l0 ((rd_T91 l1 x5_1).f0) t177 t178 true _ ?side1 A8.out).mono ?_); (case side1 => exact Kd.V_mk HC0.out (Kd.F_below (Kd.C_F k91_heap HR0.out) bb_)); rintro e w21 ⟨v179, rfl, ho0, hb⟩; refine ⟨_, rfl, ?_⟩; have HO180 := Aside0.mk (Kd.V_lower (Kd.V_mono (ok' := fun k_ => True) ho0 (fun k_ hk_ => trivial)) (below_size bb_)); replace HB := bs_ hb; (try clear hb); (try clear hb2); (try clear hk); (try clear hi); (try clear ho0)) | ((with_reducible refine gate_dst (N := 6) rfl ?_); refine bx_ 6 #[.int .i64 0, .slice none 0 0] 40 ?_; intro gb182 hg w22 hbox hb; have BK182 := Aside0.mk (hbox); have GW182 := gw_ hg; have GE182 := gw_ hg; replace HO180 := Aside0.mk (Kd.V_below (Kd.V_elderB (by (with_reducible repeat (first | apply Kd.V_alloc | apply Kd.V_drewN | apply Kd.V_drew)); exact HO180.out) gb182 (Nat.le_of_eq hg.symm)) hb); replace HB := bs_ hb; clear hb hbox hg; obtain ⟨hcz23_0, hcz23_1, hfz23_0, hfz23_1⟩ := b2_ BK182; obtain ⟨Ao24, co24, eo24⟩ := Kd.V_slice HO180.out; subst eo24))
              have n0_ : Aside0 (Kd.V k74 74 ((w22.setCell ⟨gb182, 0, none⟩ (.int .i64 t177)).setCell ⟨gb182, 1, none⟩ (.slice Ao24 t178.length co24)) w.heap.size (fun k_ => k_ ≠ gb182) (.slice Ao24 t178.length co24) t178) := ⟨by (with_reducible repeat (first | apply Kd.V_alloc | apply Kd.V_drewN | apply Kd.V_drew)); exact Kd.V_mono (Kd.V_far (p := ⟨gb182, 1, none⟩) (Kd.V_far (p := ⟨gb182, 0, none⟩) (Kd.V_mono HO180.out (fun k_ hk => (⟨hk, hk.2⟩ : _ ∧ k_ ≠ gb182))) (fun _ hk => hk.2) (.int .i64 t177)) (fun _ hk => hk.2) (.slice Ao24 t178.length co24)) (fun _ hk => hk.1.2)⟩
              have n1_ : Aside0 (((w22.setCell ⟨gb182, 0, none⟩ (.int .i64 t177)).setCell ⟨gb182, 1, none⟩ (.slice Ao24 t178.length co24)).heap[gb182]? = some (.cells #[.int .i64 t177, .slice Ao24 t178.length co24] 40 (0, 0))) := ⟨(bp2_ (bkx_ BK182.out))⟩
              have n2_ : Aside0 (Below w.heap.size w ((w22.setCell ⟨gb182, 0, none⟩ (.int .i64 t177)).setCell ⟨gb182, 1, none⟩ (.slice Ao24 t178.length co24))) := ⟨bb_⟩
              (try clear HO180)
              (try clear BK182)
              (try clear HB)
              generalize ((w22.setCell ⟨gb182, 0, none⟩ (.int .i64 t177)).setCell ⟨gb182, 1, none⟩ (.slice Ao24 t178.length co24)) = w25 at n0_ n1_ n2_ ⊢
              have HO180 := n0_
              have BK182 := n1_
              have HB := n2_
              clear n0_ n1_ n2_
              replace HO180 := Aside0.mk (Kd.V_drew HO180.out)
              replace BK182 := Aside0.mk (blk_drew BK182.out)
              replace HB := Aside0.mk (below_drew1 HB.out)
              have p183 : 0 ≤ (x5_1 : Int) := od_
              have q183 : x5_1 < (l1.length : Int) := od_
              obtain ⟨ad183, A183_2, c183_2, e183, hx183_0, hx183_1, hx183_2, hl183_2, hi183_2⟩ := at_T91 HR1.out x5_1 p183 q183
              have hw183_2 := hx183_2
              have hw183_1 := hx183_1
              have hw183_0 := hx183_0
              obtain rfl : ad176 = ad183 := (by injection e183)
              replace hx183_0 := hb_ HB hx183_0
              replace hx183_1 := hb_ HB hx183_1
              replace hx183_2 := hb_ HB hx183_2
              have HR183_2 := Aside0.mk hi183_2
              have HC183_2 := Aside0.mk hl183_2
              clear hi183_2 hl183_2
              replace p183 := eq_true p183
              replace q183 := eq_true q183
              have p184 : 0 ≤ (x5_1 : Int) := od_
              have q184 : x5_1 < (l1.length : Int) := od_
              obtain ⟨ad184, A184_2, c184_2, e184, hx184_0, hx184_1, hx184_2, hl184_2, hi184_2⟩ := at_T91 HR1.out x5_1 p184 q184
              have hw184_2 := hx184_2
              have hw184_1 := hx184_1
              have hw184_0 := hx184_0
              obtain rfl : ad176 = ad184 := (by injection e184)
              replace hx184_0 := hb_ HB hx184_0
              replace hx184_1 := hb_ HB hx184_1
              replace hx184_2 := hb_ HB hx184_2
              have HR184_2 := Aside0.mk hi184_2
              have HC184_2 := Aside0.mk hl184_2
              clear hi184_2 hl184_2
              replace p184 := eq_true p184
              replace q184 := eq_true q184
              have ea_ := Option.some.inj (hx183_2.symm.trans hx184_2)
              injection ea_ with ea_ en_ ec_
              subst ea_
              subst ec_
              clear en_
              have p186 : 0 ≤ (x5_1 : Int) := od_
              have q186 : x5_1 < (l1.length : Int) := od_
              obtain ⟨ad186, A186_2, c186_2, e186, hx186_0, hx186_1, hx186_2, hl186_2, hi186_2⟩ := at_T91 HR1.out x5_1 p186 q186
              have hw186_2 := hx186_2
              have hw186_1 := hx186_1
              have hw186_0 := hx186_0
              obtain rfl : ad176 = ad186 := (by injection e186)
              replace hx186_0 := hb_ HB hx186_0
              replace hx186_1 := hb_ HB hx186_1
              replace hx186_2 := hb_ HB hx186_2
              have HR186_2 := Aside0.mk hi186_2
              have HC186_2 := Aside0.mk hl186_2
              clear hi186_2 hl186_2
              replace p186 := eq_true p186
              replace q186 := eq_true q186
              have ea_ := Option.some.inj (hx183_2.symm.trans hx186_2)
              injection ea_ with ea_ en_ ec_
              subst ea_
              subst ec_
              clear en_
              have p187 : 0 ≤ ((ji14) : Int) := od_
              have q187 : (ji14) < (l1.length : Int) := od_
              obtain ⟨ad187, A187_2, c187_2, e187, hx187_0, hx187_1, hx187_2, hl187_2, hi187_2⟩ := at_T91 HR1.out (ji14) p187 q187
              have hw187_2 := hx187_2
              have hw187_1 := hx187_1
              have hw187_0 := hx187_0
              obtain rfl : ad176 = ad187 := (by injection e187)
              replace hx187_0 := hb_ HB hx187_0
              replace hx187_1 := hb_ HB hx187_1
              replace hx187_2 := hb_ HB hx187_2
              have HR187_2 := Aside0.mk hi187_2
              have HC187_2 := Aside0.mk hl187_2
              clear hi187_2 hl187_2
              replace p187 := eq_true p187
              replace q187 := eq_true q187
              have p188 : 0 ≤ (x5_1 : Int) := od_
              have q188 : x5_1 < (l1.length : Int) := od_
              obtain ⟨ad188, A188_2, c188_2, e188, hx188_0, hx188_1, hx188_2, hl188_2, hi188_2⟩ := at_T91 HR1.out x5_1 p188 q188
              have hw188_2 := hx188_2
              have hw188_1 := hx188_1
              have hw188_0 := hx188_0
              obtain rfl : ad176 = ad188 := (by injection e188)
              replace hx188_0 := hb_ HB hx188_0
              replace hx188_1 := hb_ HB hx188_1
              replace hx188_2 := hb_ HB hx188_2
              have HR188_2 := Aside0.mk hi188_2
              have HC188_2 := Aside0.mk hl188_2
              clear hi188_2 hl188_2
              replace p188 := eq_true p188
              replace q188 := eq_true q188
              have ea_ := Option.some.inj (hx186_2.symm.trans hx188_2)
              injection ea_ with ea_ en_ ec_
              subst ea_
              subst ec_
              clear en_
              refine start_ (n := 51) (S := fun w' => w'.cell? ⟨gb182, 0, none⟩ = some (.int .i64 t177) ∧ w'.cell? ⟨gb182, 1, none⟩ = some (.slice Ao24 t178.length co24) ∧ w'.cell? (ad176.add ((x5_1).toNat * 3)) = some (.string ((rd_T91 l1 x5_1).f0)) ∧ w'.cell? ⟨(ad176.add ((x5_1).toNat * 3)).block, (ad176.add ((x5_1).toNat * 3)).off + 1, none⟩ = some (.int .i64 ((rd_T91 l1 x5_1).f1.f0)) ∧ w'.cell? ⟨(ad176.add ((x5_1).toNat * 3)).block, (ad176.add ((x5_1).toNat * 3)).off + 2, none⟩ = some (.slice A183_2 ((rd_T91 l1 x5_1).f1.f1).length c183_2) ∧ w'.cell? (ad176.add ((x5_1).toNat * 3)) = some (.string ((rd_T91 l1 x5_1).f0)) ∧ w'.cell? ⟨(ad176.add ((x5_1).toNat * 3)).block, (ad176.add ((x5_1).toNat * 3)).off + 1, none⟩ = some (.int .i64 ((rd_T91 l1 x5_1).f1.f0)) ∧ w'.cell? ⟨(ad176.add ((x5_1).toNat * 3)).block, (ad176.add ((x5_1).toNat * 3)).off + 2, none⟩ = some (.slice A183_2 ((rd_T91 l1 x5_1).f1.f1).length c183_2) ∧ w'.cell? (ad176.add ((x5_1).toNat * 3)) = some (.string ((rd_T91 l1 x5_1).f0)) ∧ w'.cell? ⟨(ad176.add ((x5_1).toNat * 3)).block, (ad176.add ((x5_1).toNat * 3)).off + 1, none⟩ = some (.int .i64 ((rd_T91 l1 x5_1).f1.f0)) ∧ w'.cell? ⟨(ad176.add ((x5_1).toNat * 3)).block, (ad176.add ((x5_1).toNat * 3)).off + 2, none⟩ = some (.slice A183_2 ((rd_T91 l1 x5_1).f1.f1).length c183_2) ∧ w'.cell? (ad176.add (((ji14)).toNat * 3)) = some (.string ((rd_T91 l1 (ji14)).f0)) ∧ w'.cell? ⟨(ad176.add (((ji14)).toNat * 3)).block, (ad176.add (((ji14)).toNat * 3)).off + 1, none⟩ = some (.int .i64 ((rd_T91 l1 (ji14)).f1.f0)) ∧ w'.cell? ⟨(ad176.add (((ji14)).toNat * 3)).block, (ad176.add (((ji14)).toNat * 3)).off + 2, none⟩ = some (.slice A187_2 ((rd_T91 l1 (ji14)).f1.f1).length c187_2) ∧ w'.cell? (ad176.add ((x5_1).toNat * 3)) = some (.string ((rd_T91 l1 x5_1).f0)) ∧ w'.cell? ⟨(ad176.add ((x5_1).toNat * 3)).block, (ad176.add ((x5_1).toNat * 3)).off + 1, none⟩ = some (.int .i64 ((rd_T91 l1 x5_1).f1.f0)) ∧ w'.cell? ⟨(ad176.add ((x5_1).toNat * 3)).block, (ad176.add ((x5_1).toNat * 3)).off + 2, none⟩ = some (.slice A183_2 ((rd_T91 l1 x5_1).f1.f1).length c183_2)) (ds := []) (tf 0 51) (by kernel_rfl) rfl rfl ⟨bc_ BK182 0, bc_ BK182 1, (hb_ HB hw183_0), (hb_ HB hw183_1), (hb_ HB hw183_2), (hb_ HB hw184_0), (hb_ HB hw184_1), (hb_ HB hw184_2), (hb_ HB hw186_0), (hb_ HB hw186_1), (hb_ HB hw186_2), (hb_ HB hw187_0), (hb_ HB hw187_1), (hb_ HB hw187_2), (hb_ HB hw188_0), (hb_ HB hw188_1), (hb_ HB hw188_2)⟩ (fun hHeld => ?_); refine with_tabW spec_ChangeOk.tab7 spec_ChangeOk.bits7 (fun HT_ HW_ => ?_)
              generalize w25.drew = w26 at HO180 BK182 HB HR183_2 HR184_2 HR186_2 HR187_2 HR188_2 hx183_0 hx183_1 hx183_2 hx184_0 hx184_1 hx184_2 hx186_0 hx186_1 hx186_2 hx187_0 hx187_1 hx187_2 hx188_0 hx188_1 hx188_2 hHeld ⊢
              iterate 4 (refine pl_ ?_)
              refine plx_ 5 #[true, true, true, true, false, true, false, false, false, false, false, false, false, false, false, false, false, false, false, false, false, false, false, false, false, false, false, false, false, false, false, false, false, false, false, false, false, false, false, false, false, false, false, false, false, false, false, false, false, false, false] ?_
              refine plx_ 6 #[true, true, true, true, false, true, true, false, false, false, false, false, false, false, false, false, false, false, false, false, false, false, false, false, false, false, false, false, false, false, false, false, false, false, false, false, false, false, false, false, false, false, false, false, false, false, false, false, false, false, false] ?_
              refine plx_ 7 #[true, true, true, true, false, true, true, true, false, false, false, false, false, false, false, false, false, false, false, false, false, false, false, false, false, false, false, false, false, false, false, false, false, false, false, false, false, false, false, false, false, false, false, false, false, false, false, false, false, false, false] ?_
              refine plx_ 8 #[true, true, true, true, false, true, true, true, true, false, false, false, false, false, false, false, false, false, false, false, false, false, false, false, false, false, false, false, false, false, false, false, false, false, false, false, false, false, false, false, false, false, false, false, false, false, false, false, false, false, false] ?_
              refine plx_ 9 #[true, true, true, true, false, true, true, true, true, true, false, false, false, false, false, false, false, false, false, false, false, false, false, false, false, false, false, false, false, false, false, false, false, false, false, false, false, false, false, false, false, false, false, false, false, false, false, false, false, false, false] ?_
              refine tlx_ 4 (tf 10 41) ?_
              refine tl_ ?_
              iterate 7 (refine pl_ ?_)
              refine tl_ ?_
              refine one_ (i := 19) (N := some 46) (tf 20 31) rfl rfl (one_of HT_.out (by kernel_rfl)) (by decide) (fun K hK => ?_)
              refine gs_ Try.func56 #[.agg #[.int .i64 ((rd_T91 l1 x5_1).f1.f0), .slice A183_2 ((rd_T91 l1 x5_1).f1.f1).length c183_2]] ?_
              with_reducible refine (spec_BagOk.calls k1 ((rd_T91 l1 x5_1).f1.f0) _ _ ((rd_T91 l1 x5_1).f1.f1) true _ ?side1 ?side2 A11.out).mono ?_
              (case side1 => exact ck_ (Kd.C_below HR184_2.out HB.out))
              (case side2 => exact HC184_2.out)
              rintro e w27 ⟨rfl, hb⟩
              refine ⟨_, rfl, ?_⟩
              replace HO180 := Aside0.mk (Kd.V_below (by (with_reducible repeat (first | apply Kd.V_alloc | apply Kd.V_drewN | apply Kd.V_drew)); exact HO180.out) hb)
              replace BK182 := bkb_ BK182 hb
              replace HB := bs_ hb
              (try clear hb)
              (try clear hb2)
              (try clear hk)
              (try clear hi)
              refine hK.out _ _ ⟨bc_ BK182 0, bc_ BK182 1, (have h_ := hb_ HB hw183_0; h_), (have h_ := hb_ HB hw183_1; h_), (have h_ := hb_ HB hw183_2; h_), (have h_ := hb_ HB hw184_0; h_), (have h_ := hb_ HB hw184_1; h_), (have h_ := hb_ HB hw184_2; h_), (have h_ := hb_ HB hw186_0; h_), (have h_ := hb_ HB hw186_1; h_), (have h_ := hb_ HB hw186_2; h_), (have h_ := hb_ HB hw187_0; h_), (have h_ := hb_ HB hw187_1; h_), (have h_ := hb_ HB hw187_2; h_), (have h_ := hb_ HB hw188_0; h_), (have h_ := hb_ HB hw188_1; h_), (have h_ := hb_ HB hw188_2; h_)⟩ (fun hHeld => ?_)
              clear hK K
              refine nm_ ?_
              refine plx_ 20 (tf 21 30) ?_
              iterate 9 (refine pl_ ?_)
              refine plx_ 31 #[true, true, true, true, true, true, true, true, true, true, true, true, true, true, true, true, true, true, true, true, true, true, true, true, true, true, true, true, true, true, false, true, false, false, false, false, false, false, false, false, false, false, false, false, false, false, false, false, false, false, false] ?_
              refine plx_ 32 #[true, true, true, true, true, true, true, true, true, true, true, true, true, true, true, true, true, true, true, true, true, true, true, true, true, true, true, true, true, true, false, true, true, false, false, false, false, false, false, false, false, false, false, false, false, false, false, false, false, false, false] ?_
              refine plx_ 33 #[true, true, true, true, true, true, true, true, true, true, true, true, true, true, true, true, true, true, true, true, true, true, true, true, true, true, true, true, true, true, false, true, true, true, false, false, false, false, false, false, false, false, false, false, false, false, false, false, false, false, false] ?_
              refine plx_ 34 #[true, true, true, true, true, true, true, true, true, true, true, true, true, true, true, true, true, true, true, true, true, true, true, true, true, true, true, true, true, true, false, true, true, true, true, false, false, false, false, false, false, false, false, false, false, false, false, false, false, false, false] ?_
              refine plx_ 35 #[true, true, true, true, true, true, true, true, true, true, true, true, true, true, true, true, true, true, true, true, true, true, true, true, true, true, true, true, true, true, false, true, true, true, true, true, false, false, false, false, false, false, false, false, false, false, false, false, false, false, false] ?_
              refine tlx_ 30 (tf 36 15) ?_
              refine tl_ ?_
              iterate 4 (refine pl_ ?_)
              refine plx_ 42 #[true, true, true, true, true, true, true, true, true, true, true, true, true, true, true, true, true, true, true, true, true, true, true, true, true, true, true, true, true, true, true, true, true, true, true, true, true, true, true, true, true, false, true, false, false, false, false, false, false, false, false] ?_
              refine plx_ 43 #[true, true, true, true, true, true, true, true, true, true, true, true, true, true, true, true, true, true, true, true, true, true, true, true, true, true, true, true, true, true, true, true, true, true, true, true, true, true, true, true, true, false, true, true, false, false, false, false, false, false, false] ?_
              refine plx_ 44 #[true, true, true, true, true, true, true, true, true, true, true, true, true, true, true, true, true, true, true, true, true, true, true, true, true, true, true, true, true, true, true, true, true, true, true, true, true, true, true, true, true, false, true, true, true, false, false, false, false, false, false] ?_
              refine plx_ 45 #[true, true, true, true, true, true, true, true, true, true, true, true, true, true, true, true, true, true, true, true, true, true, true, true, true, true, true, true, true, true, true, true, true, true, true, true, true, true, true, true, true, false, true, true, true, true, false, false, false, false, false] ?_
              refine tlx_ 41 (tf 46 5) ?_
              refine tl_ ?_
              refine one_ (i := 47) (N := some 74) (tf 48 3) rfl rfl (one_of HT_.out (by kernel_rfl)) (by decide) (fun K hK => ?_)
              refine gs_ Try.func58 #[.agg #[.int .i64 t177, .slice Ao24 t178.length co24], .agg #[.int .i64 ((rd_T91 l1 x5_1).f1.f0), .slice A183_2 ((rd_T91 l1 x5_1).f1.f1).length c183_2], .int .i64 1] ?_
              with_reducible refine (spec_l02Sum.calls k1 t177 _ _ t178 ((rd_T91 l1 x5_1).f1.f0) _ _ ((rd_T91 l1 x5_1).f1.f1) 1 t189 t190 _ ?side1 ?side2 ?side3 ?side4 A18.out).mono ?_
              (case side1 => exact ck_ (Kd.V_reads' HO180.out).2.2)
              (case side2 => exact (Kd.V_reads' HO180.out).2.1)
              (case side3 => exact ck_ (Kd.C_below HR188_2.out HB.out))
              (case side4 => exact HC188_2.out)
              rintro e w28 ⟨v191, rfl, ho0, hb⟩
              refine ⟨_, rfl, ?_⟩
              have HO192 := Aside0.mk (Kd.N_lower (Kd.N_mono (ok' := fun k_ => k_ ≠ gb182) ho0 (fun k_ hk_ => (Kd.freshB (g := gb182) (o := .cells #[.int .i64 t177, .slice Ao24 t178.length co24] 40 (0, 0)) (bkx_ BK182.out) k_ hk_))) (below_size bb_))
              replace HO180 := Aside0.mk (Kd.V_elder' (by (with_reducible repeat (first | apply Kd.V_alloc | apply Kd.V_drewN | apply Kd.V_drew)); exact HO180.out) (Kd.N_base ho0) hb)
              replace BK182 := bkb_ BK182 hb
              replace HB := bs_ hb
              (try clear hb)
              (try clear hb2)
              (try clear hk)
              (try clear hi)
              (try clear ho0)
              obtain ⟨Ao29, co29, eo29⟩ := Kd.N_slice HO192.out
              (first | subst eo29 | (injection eo29 with f1_ f2_ f3_; have f4_ := f1_.symm; have f5_ := f3_.symm; clear f1_ f2_ f3_; subst f4_; subst f5_))
              refine hK.out _ _ ⟨bc_ BK182 0, bc_ BK182 1, (have h_ := hb_ HB hw183_0; h_), (have h_ := hb_ HB hw183_1; h_), (have h_ := hb_ HB hw183_2; h_), (have h_ := hb_ HB hw184_0; h_), (have h_ := hb_ HB hw184_1; h_), (have h_ := hb_ HB hw184_2; h_), (have h_ := hb_ HB hw186_0; h_), (have h_ := hb_ HB hw186_1; h_), (have h_ := hb_ HB hw186_2; h_), (have h_ := hb_ HB hw187_0; h_), (have h_ := hb_ HB hw187_1; h_), (have h_ := hb_ HB hw187_2; h_), (have h_ := hb_ HB hw188_0; h_), (have h_ := hb_ HB hw188_1; h_), (have h_ := hb_ HB hw188_2; h_)⟩ (fun hHeld => ?_)
              clear hK K
              refine nm_ ?_
              refine one_ (i := 48) (N := some 75) (tf 49 2) rfl rfl (one_of HT_.out (by kernel_rfl)) (by decide) (fun K hK => ?_)
              refine gs_ Try.func57 #[.agg #[.int .i64 t189, .slice Ao29 t190.length co29]] ?_
              with_reducible refine (spec_Plain.calls k1 t189 _ _ t190 true _ ?side1 ?side2 A19.out).mono ?_
              (case side1 => exact ck_ (Kd.N_reads' HO192.out).2.2)
              (case side2 => exact (Kd.N_reads' HO192.out).2.1)
              rintro e w30 ⟨rfl, hb⟩
              refine ⟨_, rfl, ?_⟩
              replace HO180 := Aside0.mk (Kd.V_below (by (with_reducible repeat (first | apply Kd.V_alloc | apply Kd.V_drewN | apply Kd.V_drew)); exact HO180.out) hb)
              replace HO192 := Aside0.mk (Kd.N_below (by (with_reducible repeat (first | apply Kd.N_alloc | apply Kd.N_drewN | apply Kd.N_drew)); exact HO192.out) hb)
              replace BK182 := bkb_ BK182 hb
              replace HB := bs_ hb
              (try clear hb)
              (try clear hb2)
              (try clear hk)
              (try clear hi)
              refine hK.out _ _ ⟨bc_ BK182 0, bc_ BK182 1, (have h_ := hb_ HB hw183_0; h_), (have h_ := hb_ HB hw183_1; h_), (have h_ := hb_ HB hw183_2; h_), (have h_ := hb_ HB hw184_0; h_), (have h_ := hb_ HB hw184_1; h_), (have h_ := hb_ HB hw184_2; h_), (have h_ := hb_ HB hw186_0; h_), (have h_ := hb_ HB hw186_1; h_), (have h_ := hb_ HB hw186_2; h_), (have h_ := hb_ HB hw187_0; h_), (have h_ := hb_ HB hw187_1; h_), (have h_ := hb_ HB hw187_2; h_), (have h_ := hb_ HB hw188_0; h_), (have h_ := hb_ HB hw188_1; h_), (have h_ := hb_ HB hw188_2; h_)⟩ (fun hHeld => ?_)
              clear hK K
              refine nm_ ?_
              refine plx_ 49 (tf 50 1) ?_
              refine pl_ ?_
              refine done_ (done_of HT_.out (by kernel_rfl)) ?_
              try go_wp2
              go_roundg k1
              case measure => have := HK1.out; omega
              case rel => exact ⟨(wrap64 (x5_1 + 1)), rs_, H', ⟨by have := HK1.out; omega⟩, ⟨bb_⟩⟩
             ·replace c20 := Bool.eq_false_iff.mpr c20
              subst c20
              have H1 : (some false) = some r := by rw [if_neg (show ¬ (false = true) by decide)] at H; exact H
              clear H
              have H := H1
              clear H1
              obtain rfl := Option.some.inj H
              have p176 : 0 ≤ (x5_1 : Int) := od_
              have q176 : x5_1 < (l1.length : Int) := od_
              obtain ⟨ad176, A176_2, c176_2, e176, hx176_0, hx176_1, hx176_2, hl176_2, hi176_2⟩ := at_T91 HR1.out x5_1 p176 q176
              cases e176
              replace hx176_0 := hb_ HB hx176_0
              replace hx176_1 := hb_ HB hx176_1
              replace hx176_2 := hb_ HB hx176_2
              have HR176_2 := Aside0.mk hi176_2
              have HC176_2 := Aside0.mk hl176_2
              clear hi176_2 hl176_2
              replace p176 := eq_true p176
              replace q176 := eq_true q176
              try go_wp2_with (first | ((with_reducible refine gate_callee (f := 55) rfl ?_); refine gsL_ (some 24) Try.func55 #[.slice A0 l0.length c0, .string ((rd_T91 l1 x5_1).f0)] ?_; (with_reducible refine (spec_l04Rel.calls k1 (fun k_ => k_ < w.heap.size) _ _ l0 ((rd_T91 l1 x5_1).f0) t177 t178 true _ ?side1 A8.out).mono ?_); (case side1 => exact Kd.V_mk HC0.out (Kd.F_below (Kd.C_F k91_heap HR0.out) bb_)); rintro e w31 ⟨v179, rfl, ho0, hb⟩; refine ⟨_, rfl, ?_⟩; have HO180 := Aside0.mk (Kd.V_lower (Kd.V_mono (ok' := fun k_ => True) ho0 (fun k_ hk_ => trivial)) (below_size bb_)); replace HB := bs_ hb; (try clear hb); (try clear hb2); (try clear hk); (try clear hi); (try clear ho0)) | ((with_reducible refine gate_dst (N := 6) rfl ?_); refine bx_ 6 #[.int .i64 0, .slice none 0 0] 40 ?_; intro gb182 hg w32 hbox hb; have BK182 := Aside0.mk (hbox); have GW182 := gw_ hg; have GE182 := gw_ hg; replace HO180 := Aside0.mk (Kd.V_below (Kd.V_elderB (by (with_reducible repeat (first | apply Kd.V_alloc | apply Kd.V_drewN | apply Kd.V_drew)); exact HO180.out) gb182 (Nat.le_of_eq hg.symm)) hb); replace HB := bs_ hb; clear hb hbox hg; obtain ⟨hcz33_0, hcz33_1, hfz33_0, hfz33_1⟩ := b2_ BK182; obtain ⟨Ao34, co34, eo34⟩ := Kd.V_slice HO180.out; subst eo34))
              have n0_ : Aside0 (Kd.V k74 74 ((w32.setCell ⟨gb182, 0, none⟩ (.int .i64 t177)).setCell ⟨gb182, 1, none⟩ (.slice Ao34 t178.length co34)) w.heap.size (fun k_ => k_ ≠ gb182) (.slice Ao34 t178.length co34) t178) := ⟨by (with_reducible repeat (first | apply Kd.V_alloc | apply Kd.V_drewN | apply Kd.V_drew)); exact Kd.V_mono (Kd.V_far (p := ⟨gb182, 1, none⟩) (Kd.V_far (p := ⟨gb182, 0, none⟩) (Kd.V_mono HO180.out (fun k_ hk => (⟨hk, hk.2⟩ : _ ∧ k_ ≠ gb182))) (fun _ hk => hk.2) (.int .i64 t177)) (fun _ hk => hk.2) (.slice Ao34 t178.length co34)) (fun _ hk => hk.1.2)⟩
              have n1_ : Aside0 (((w32.setCell ⟨gb182, 0, none⟩ (.int .i64 t177)).setCell ⟨gb182, 1, none⟩ (.slice Ao34 t178.length co34)).heap[gb182]? = some (.cells #[.int .i64 t177, .slice Ao34 t178.length co34] 40 (0, 0))) := ⟨(bp2_ (bkx_ BK182.out))⟩
              have n2_ : Aside0 (Below w.heap.size w ((w32.setCell ⟨gb182, 0, none⟩ (.int .i64 t177)).setCell ⟨gb182, 1, none⟩ (.slice Ao34 t178.length co34))) := ⟨bb_⟩
              (try clear HO180)
              (try clear BK182)
              (try clear HB)
              generalize ((w32.setCell ⟨gb182, 0, none⟩ (.int .i64 t177)).setCell ⟨gb182, 1, none⟩ (.slice Ao34 t178.length co34)) = w35 at n0_ n1_ n2_ ⊢
              have HO180 := n0_
              have BK182 := n1_
              have HB := n2_
              clear n0_ n1_ n2_
              replace HO180 := Aside0.mk (Kd.V_drew HO180.out)
              replace BK182 := Aside0.mk (blk_drew BK182.out)
              replace HB := Aside0.mk (below_drew1 HB.out)
              have p183 : 0 ≤ (x5_1 : Int) := od_
              have q183 : x5_1 < (l1.length : Int) := od_
              obtain ⟨ad183, A183_2, c183_2, e183, hx183_0, hx183_1, hx183_2, hl183_2, hi183_2⟩ := at_T91 HR1.out x5_1 p183 q183
              have hw183_2 := hx183_2
              have hw183_1 := hx183_1
              have hw183_0 := hx183_0
              obtain rfl : ad176 = ad183 := (by injection e183)
              replace hx183_0 := hb_ HB hx183_0
              replace hx183_1 := hb_ HB hx183_1
              replace hx183_2 := hb_ HB hx183_2
              have HR183_2 := Aside0.mk hi183_2
              have HC183_2 := Aside0.mk hl183_2
              clear hi183_2 hl183_2
              replace p183 := eq_true p183
              replace q183 := eq_true q183
              have p184 : 0 ≤ (x5_1 : Int) := od_
              have q184 : x5_1 < (l1.length : Int) := od_
              obtain ⟨ad184, A184_2, c184_2, e184, hx184_0, hx184_1, hx184_2, hl184_2, hi184_2⟩ := at_T91 HR1.out x5_1 p184 q184
              have hw184_2 := hx184_2
              have hw184_1 := hx184_1
              have hw184_0 := hx184_0
              obtain rfl : ad176 = ad184 := (by injection e184)
              replace hx184_0 := hb_ HB hx184_0
              replace hx184_1 := hb_ HB hx184_1
              replace hx184_2 := hb_ HB hx184_2
              have HR184_2 := Aside0.mk hi184_2
              have HC184_2 := Aside0.mk hl184_2
              clear hi184_2 hl184_2
              replace p184 := eq_true p184
              replace q184 := eq_true q184
              have ea_ := Option.some.inj (hx183_2.symm.trans hx184_2)
              injection ea_ with ea_ en_ ec_
              subst ea_
              subst ec_
              clear en_
              have p186 : 0 ≤ (x5_1 : Int) := od_
              have q186 : x5_1 < (l1.length : Int) := od_
              obtain ⟨ad186, A186_2, c186_2, e186, hx186_0, hx186_1, hx186_2, hl186_2, hi186_2⟩ := at_T91 HR1.out x5_1 p186 q186
              have hw186_2 := hx186_2
              have hw186_1 := hx186_1
              have hw186_0 := hx186_0
              obtain rfl : ad176 = ad186 := (by injection e186)
              replace hx186_0 := hb_ HB hx186_0
              replace hx186_1 := hb_ HB hx186_1
              replace hx186_2 := hb_ HB hx186_2
              have HR186_2 := Aside0.mk hi186_2
              have HC186_2 := Aside0.mk hl186_2
              clear hi186_2 hl186_2
              replace p186 := eq_true p186
              replace q186 := eq_true q186
              have ea_ := Option.some.inj (hx183_2.symm.trans hx186_2)
              injection ea_ with ea_ en_ ec_
              subst ea_
              subst ec_
              clear en_
              have p187 : 0 ≤ ((ji14) : Int) := od_
              have q187 : (ji14) < (l1.length : Int) := od_
              obtain ⟨ad187, A187_2, c187_2, e187, hx187_0, hx187_1, hx187_2, hl187_2, hi187_2⟩ := at_T91 HR1.out (ji14) p187 q187
              have hw187_2 := hx187_2
              have hw187_1 := hx187_1
              have hw187_0 := hx187_0
              obtain rfl : ad176 = ad187 := (by injection e187)
              replace hx187_0 := hb_ HB hx187_0
              replace hx187_1 := hb_ HB hx187_1
              replace hx187_2 := hb_ HB hx187_2
              have HR187_2 := Aside0.mk hi187_2
              have HC187_2 := Aside0.mk hl187_2
              clear hi187_2 hl187_2
              replace p187 := eq_true p187
              replace q187 := eq_true q187
              have p188 : 0 ≤ (x5_1 : Int) := od_
              have q188 : x5_1 < (l1.length : Int) := od_
              obtain ⟨ad188, A188_2, c188_2, e188, hx188_0, hx188_1, hx188_2, hl188_2, hi188_2⟩ := at_T91 HR1.out x5_1 p188 q188
              have hw188_2 := hx188_2
              have hw188_1 := hx188_1
              have hw188_0 := hx188_0
              obtain rfl : ad176 = ad188 := (by injection e188)
              replace hx188_0 := hb_ HB hx188_0
              replace hx188_1 := hb_ HB hx188_1
              replace hx188_2 := hb_ HB hx188_2
              have HR188_2 := Aside0.mk hi188_2
              have HC188_2 := Aside0.mk hl188_2
              clear hi188_2 hl188_2
              replace p188 := eq_true p188
              replace q188 := eq_true q188
              have ea_ := Option.some.inj (hx186_2.symm.trans hx188_2)
              injection ea_ with ea_ en_ ec_
              subst ea_
              subst ec_
              clear en_
              refine start_ (n := 51) (S := fun w' => w'.cell? ⟨gb182, 0, none⟩ = some (.int .i64 t177) ∧ w'.cell? ⟨gb182, 1, none⟩ = some (.slice Ao34 t178.length co34) ∧ w'.cell? (ad176.add ((x5_1).toNat * 3)) = some (.string ((rd_T91 l1 x5_1).f0)) ∧ w'.cell? ⟨(ad176.add ((x5_1).toNat * 3)).block, (ad176.add ((x5_1).toNat * 3)).off + 1, none⟩ = some (.int .i64 ((rd_T91 l1 x5_1).f1.f0)) ∧ w'.cell? ⟨(ad176.add ((x5_1).toNat * 3)).block, (ad176.add ((x5_1).toNat * 3)).off + 2, none⟩ = some (.slice A183_2 ((rd_T91 l1 x5_1).f1.f1).length c183_2) ∧ w'.cell? (ad176.add ((x5_1).toNat * 3)) = some (.string ((rd_T91 l1 x5_1).f0)) ∧ w'.cell? ⟨(ad176.add ((x5_1).toNat * 3)).block, (ad176.add ((x5_1).toNat * 3)).off + 1, none⟩ = some (.int .i64 ((rd_T91 l1 x5_1).f1.f0)) ∧ w'.cell? ⟨(ad176.add ((x5_1).toNat * 3)).block, (ad176.add ((x5_1).toNat * 3)).off + 2, none⟩ = some (.slice A183_2 ((rd_T91 l1 x5_1).f1.f1).length c183_2) ∧ w'.cell? (ad176.add ((x5_1).toNat * 3)) = some (.string ((rd_T91 l1 x5_1).f0)) ∧ w'.cell? ⟨(ad176.add ((x5_1).toNat * 3)).block, (ad176.add ((x5_1).toNat * 3)).off + 1, none⟩ = some (.int .i64 ((rd_T91 l1 x5_1).f1.f0)) ∧ w'.cell? ⟨(ad176.add ((x5_1).toNat * 3)).block, (ad176.add ((x5_1).toNat * 3)).off + 2, none⟩ = some (.slice A183_2 ((rd_T91 l1 x5_1).f1.f1).length c183_2) ∧ w'.cell? (ad176.add (((ji14)).toNat * 3)) = some (.string ((rd_T91 l1 (ji14)).f0)) ∧ w'.cell? ⟨(ad176.add (((ji14)).toNat * 3)).block, (ad176.add (((ji14)).toNat * 3)).off + 1, none⟩ = some (.int .i64 ((rd_T91 l1 (ji14)).f1.f0)) ∧ w'.cell? ⟨(ad176.add (((ji14)).toNat * 3)).block, (ad176.add (((ji14)).toNat * 3)).off + 2, none⟩ = some (.slice A187_2 ((rd_T91 l1 (ji14)).f1.f1).length c187_2) ∧ w'.cell? (ad176.add ((x5_1).toNat * 3)) = some (.string ((rd_T91 l1 x5_1).f0)) ∧ w'.cell? ⟨(ad176.add ((x5_1).toNat * 3)).block, (ad176.add ((x5_1).toNat * 3)).off + 1, none⟩ = some (.int .i64 ((rd_T91 l1 x5_1).f1.f0)) ∧ w'.cell? ⟨(ad176.add ((x5_1).toNat * 3)).block, (ad176.add ((x5_1).toNat * 3)).off + 2, none⟩ = some (.slice A183_2 ((rd_T91 l1 x5_1).f1.f1).length c183_2)) (ds := []) (tf 0 51) (by kernel_rfl) rfl rfl ⟨bc_ BK182 0, bc_ BK182 1, (hb_ HB hw183_0), (hb_ HB hw183_1), (hb_ HB hw183_2), (hb_ HB hw184_0), (hb_ HB hw184_1), (hb_ HB hw184_2), (hb_ HB hw186_0), (hb_ HB hw186_1), (hb_ HB hw186_2), (hb_ HB hw187_0), (hb_ HB hw187_1), (hb_ HB hw187_2), (hb_ HB hw188_0), (hb_ HB hw188_1), (hb_ HB hw188_2)⟩ (fun hHeld => ?_); refine with_tabW spec_ChangeOk.tab7 spec_ChangeOk.bits7 (fun HT_ HW_ => ?_)
              generalize w35.drew = w36 at HO180 BK182 HB HR183_2 HR184_2 HR186_2 HR187_2 HR188_2 hx183_0 hx183_1 hx183_2 hx184_0 hx184_1 hx184_2 hx186_0 hx186_1 hx186_2 hx187_0 hx187_1 hx187_2 hx188_0 hx188_1 hx188_2 hHeld ⊢
              iterate 4 (refine pl_ ?_)
              refine plx_ 5 #[true, true, true, true, false, true, false, false, false, false, false, false, false, false, false, false, false, false, false, false, false, false, false, false, false, false, false, false, false, false, false, false, false, false, false, false, false, false, false, false, false, false, false, false, false, false, false, false, false, false, false] ?_
              refine plx_ 6 #[true, true, true, true, false, true, true, false, false, false, false, false, false, false, false, false, false, false, false, false, false, false, false, false, false, false, false, false, false, false, false, false, false, false, false, false, false, false, false, false, false, false, false, false, false, false, false, false, false, false, false] ?_
              refine plx_ 7 #[true, true, true, true, false, true, true, true, false, false, false, false, false, false, false, false, false, false, false, false, false, false, false, false, false, false, false, false, false, false, false, false, false, false, false, false, false, false, false, false, false, false, false, false, false, false, false, false, false, false, false] ?_
              refine plx_ 8 #[true, true, true, true, false, true, true, true, true, false, false, false, false, false, false, false, false, false, false, false, false, false, false, false, false, false, false, false, false, false, false, false, false, false, false, false, false, false, false, false, false, false, false, false, false, false, false, false, false, false, false] ?_
              refine plx_ 9 #[true, true, true, true, false, true, true, true, true, true, false, false, false, false, false, false, false, false, false, false, false, false, false, false, false, false, false, false, false, false, false, false, false, false, false, false, false, false, false, false, false, false, false, false, false, false, false, false, false, false, false] ?_
              refine tlx_ 4 (tf 10 41) ?_
              refine tl_ ?_
              iterate 7 (refine pl_ ?_)
              refine tl_ ?_
              refine one_ (i := 19) (N := some 46) (tf 20 31) rfl rfl (one_of HT_.out (by kernel_rfl)) (by decide) (fun K hK => ?_)
              refine gs_ Try.func56 #[.agg #[.int .i64 ((rd_T91 l1 x5_1).f1.f0), .slice A183_2 ((rd_T91 l1 x5_1).f1.f1).length c183_2]] ?_
              with_reducible refine (spec_BagOk.calls k1 ((rd_T91 l1 x5_1).f1.f0) _ _ ((rd_T91 l1 x5_1).f1.f1) true _ ?side1 ?side2 A11.out).mono ?_
              (case side1 => exact ck_ (Kd.C_below HR184_2.out HB.out))
              (case side2 => exact HC184_2.out)
              rintro e w37 ⟨rfl, hb⟩
              refine ⟨_, rfl, ?_⟩
              replace HO180 := Aside0.mk (Kd.V_below (by (with_reducible repeat (first | apply Kd.V_alloc | apply Kd.V_drewN | apply Kd.V_drew)); exact HO180.out) hb)
              replace BK182 := bkb_ BK182 hb
              replace HB := bs_ hb
              (try clear hb)
              (try clear hb2)
              (try clear hk)
              (try clear hi)
              refine hK.out _ _ ⟨bc_ BK182 0, bc_ BK182 1, (have h_ := hb_ HB hw183_0; h_), (have h_ := hb_ HB hw183_1; h_), (have h_ := hb_ HB hw183_2; h_), (have h_ := hb_ HB hw184_0; h_), (have h_ := hb_ HB hw184_1; h_), (have h_ := hb_ HB hw184_2; h_), (have h_ := hb_ HB hw186_0; h_), (have h_ := hb_ HB hw186_1; h_), (have h_ := hb_ HB hw186_2; h_), (have h_ := hb_ HB hw187_0; h_), (have h_ := hb_ HB hw187_1; h_), (have h_ := hb_ HB hw187_2; h_), (have h_ := hb_ HB hw188_0; h_), (have h_ := hb_ HB hw188_1; h_), (have h_ := hb_ HB hw188_2; h_)⟩ (fun hHeld => ?_)
              clear hK K
              refine nm_ ?_
              refine plx_ 20 (tf 21 30) ?_
              iterate 9 (refine pl_ ?_)
              refine plx_ 31 #[true, true, true, true, true, true, true, true, true, true, true, true, true, true, true, true, true, true, true, true, true, true, true, true, true, true, true, true, true, true, false, true, false, false, false, false, false, false, false, false, false, false, false, false, false, false, false, false, false, false, false] ?_
              refine plx_ 32 #[true, true, true, true, true, true, true, true, true, true, true, true, true, true, true, true, true, true, true, true, true, true, true, true, true, true, true, true, true, true, false, true, true, false, false, false, false, false, false, false, false, false, false, false, false, false, false, false, false, false, false] ?_
              refine plx_ 33 #[true, true, true, true, true, true, true, true, true, true, true, true, true, true, true, true, true, true, true, true, true, true, true, true, true, true, true, true, true, true, false, true, true, true, false, false, false, false, false, false, false, false, false, false, false, false, false, false, false, false, false] ?_
              refine plx_ 34 #[true, true, true, true, true, true, true, true, true, true, true, true, true, true, true, true, true, true, true, true, true, true, true, true, true, true, true, true, true, true, false, true, true, true, true, false, false, false, false, false, false, false, false, false, false, false, false, false, false, false, false] ?_
              refine plx_ 35 #[true, true, true, true, true, true, true, true, true, true, true, true, true, true, true, true, true, true, true, true, true, true, true, true, true, true, true, true, true, true, false, true, true, true, true, true, false, false, false, false, false, false, false, false, false, false, false, false, false, false, false] ?_
              refine tlx_ 30 (tf 36 15) ?_
              refine tl_ ?_
              iterate 4 (refine pl_ ?_)
              refine plx_ 42 #[true, true, true, true, true, true, true, true, true, true, true, true, true, true, true, true, true, true, true, true, true, true, true, true, true, true, true, true, true, true, true, true, true, true, true, true, true, true, true, true, true, false, true, false, false, false, false, false, false, false, false] ?_
              refine plx_ 43 #[true, true, true, true, true, true, true, true, true, true, true, true, true, true, true, true, true, true, true, true, true, true, true, true, true, true, true, true, true, true, true, true, true, true, true, true, true, true, true, true, true, false, true, true, false, false, false, false, false, false, false] ?_
              refine plx_ 44 #[true, true, true, true, true, true, true, true, true, true, true, true, true, true, true, true, true, true, true, true, true, true, true, true, true, true, true, true, true, true, true, true, true, true, true, true, true, true, true, true, true, false, true, true, true, false, false, false, false, false, false] ?_
              refine plx_ 45 #[true, true, true, true, true, true, true, true, true, true, true, true, true, true, true, true, true, true, true, true, true, true, true, true, true, true, true, true, true, true, true, true, true, true, true, true, true, true, true, true, true, false, true, true, true, true, false, false, false, false, false] ?_
              refine tlx_ 41 (tf 46 5) ?_
              refine tl_ ?_
              refine one_ (i := 47) (N := some 74) (tf 48 3) rfl rfl (one_of HT_.out (by kernel_rfl)) (by decide) (fun K hK => ?_)
              refine gs_ Try.func58 #[.agg #[.int .i64 t177, .slice Ao34 t178.length co34], .agg #[.int .i64 ((rd_T91 l1 x5_1).f1.f0), .slice A183_2 ((rd_T91 l1 x5_1).f1.f1).length c183_2], .int .i64 1] ?_
              with_reducible refine (spec_l02Sum.calls k1 t177 _ _ t178 ((rd_T91 l1 x5_1).f1.f0) _ _ ((rd_T91 l1 x5_1).f1.f1) 1 t189 t190 _ ?side1 ?side2 ?side3 ?side4 A18.out).mono ?_
              (case side1 => exact ck_ (Kd.V_reads' HO180.out).2.2)
              (case side2 => exact (Kd.V_reads' HO180.out).2.1)
              (case side3 => exact ck_ (Kd.C_below HR188_2.out HB.out))
              (case side4 => exact HC188_2.out)
              rintro e w38 ⟨v191, rfl, ho0, hb⟩
              refine ⟨_, rfl, ?_⟩
              have HO192 := Aside0.mk (Kd.N_lower (Kd.N_mono (ok' := fun k_ => k_ ≠ gb182) ho0 (fun k_ hk_ => (Kd.freshB (g := gb182) (o := .cells #[.int .i64 t177, .slice Ao34 t178.length co34] 40 (0, 0)) (bkx_ BK182.out) k_ hk_))) (below_size bb_))
              replace HO180 := Aside0.mk (Kd.V_elder' (by (with_reducible repeat (first | apply Kd.V_alloc | apply Kd.V_drewN | apply Kd.V_drew)); exact HO180.out) (Kd.N_base ho0) hb)
              replace BK182 := bkb_ BK182 hb
              replace HB := bs_ hb
              (try clear hb)
              (try clear hb2)
              (try clear hk)
              (try clear hi)
              (try clear ho0)
              obtain ⟨Ao39, co39, eo39⟩ := Kd.N_slice HO192.out
              (first | subst eo39 | (injection eo39 with f1_ f2_ f3_; have f4_ := f1_.symm; have f5_ := f3_.symm; clear f1_ f2_ f3_; subst f4_; subst f5_))
              refine hK.out _ _ ⟨bc_ BK182 0, bc_ BK182 1, (have h_ := hb_ HB hw183_0; h_), (have h_ := hb_ HB hw183_1; h_), (have h_ := hb_ HB hw183_2; h_), (have h_ := hb_ HB hw184_0; h_), (have h_ := hb_ HB hw184_1; h_), (have h_ := hb_ HB hw184_2; h_), (have h_ := hb_ HB hw186_0; h_), (have h_ := hb_ HB hw186_1; h_), (have h_ := hb_ HB hw186_2; h_), (have h_ := hb_ HB hw187_0; h_), (have h_ := hb_ HB hw187_1; h_), (have h_ := hb_ HB hw187_2; h_), (have h_ := hb_ HB hw188_0; h_), (have h_ := hb_ HB hw188_1; h_), (have h_ := hb_ HB hw188_2; h_)⟩ (fun hHeld => ?_)
              clear hK K
              refine nm_ ?_
              refine one_ (i := 48) (N := some 75) (tf 49 2) rfl rfl (one_of HT_.out (by kernel_rfl)) (by decide) (fun K hK => ?_)
              refine gs_ Try.func57 #[.agg #[.int .i64 t189, .slice Ao39 t190.length co39]] ?_
              with_reducible refine (spec_Plain.calls k1 t189 _ _ t190 false _ ?side1 ?side2 A19.out).mono ?_
              (case side1 => exact ck_ (Kd.N_reads' HO192.out).2.2)
              (case side2 => exact (Kd.N_reads' HO192.out).2.1)
              rintro e w40 ⟨rfl, hb⟩
              refine ⟨_, rfl, ?_⟩
              replace HO180 := Aside0.mk (Kd.V_below (by (with_reducible repeat (first | apply Kd.V_alloc | apply Kd.V_drewN | apply Kd.V_drew)); exact HO180.out) hb)
              replace HO192 := Aside0.mk (Kd.N_below (by (with_reducible repeat (first | apply Kd.N_alloc | apply Kd.N_drewN | apply Kd.N_drew)); exact HO192.out) hb)
              replace BK182 := bkb_ BK182 hb
              replace HB := bs_ hb
              (try clear hb)
              (try clear hb2)
              (try clear hk)
              (try clear hi)
              refine hK.out _ _ ⟨bc_ BK182 0, bc_ BK182 1, (have h_ := hb_ HB hw183_0; h_), (have h_ := hb_ HB hw183_1; h_), (have h_ := hb_ HB hw183_2; h_), (have h_ := hb_ HB hw184_0; h_), (have h_ := hb_ HB hw184_1; h_), (have h_ := hb_ HB hw184_2; h_), (have h_ := hb_ HB hw186_0; h_), (have h_ := hb_ HB hw186_1; h_), (have h_ := hb_ HB hw186_2; h_), (have h_ := hb_ HB hw187_0; h_), (have h_ := hb_ HB hw187_1; h_), (have h_ := hb_ HB hw187_2; h_), (have h_ := hb_ HB hw188_0; h_), (have h_ := hb_ HB hw188_1; h_), (have h_ := hb_ HB hw188_2; h_)⟩ (fun hHeld => ?_)
              clear hK K
              refine nm_ ?_
              refine plx_ 49 (tf 50 1) ?_
              refine pl_ ?_
              refine done_ (done_of HT_.out (by kernel_rfl)) ?_
              try go_wp2
              go_ret
              exact ⟨by first | rfl | (simp [errW_none, errW_some] <;> rfl) | (simp only [← hji14]; first | rfl | (simp [errW_none, errW_some] <;> rfl)) | (simp [*, errW_none, errW_some] <;> rfl), by repeat (first | (with_reducible first | exact HB.out | apply below_alloc | apply pw_below_drewN | apply below_drew1 | refine below_set ?_ GE182.out) | exact HB.out)⟩
            ·rw [if_neg c17] at H
             have c17b0 : (Op.bytesLess (((rd_T91 l1 (ji14)).f0).toList) (((rd_T91 l1 x5_1).f0).toList)) = false := by simpa using c17
             clear c17
             obtain rfl := Option.some.inj H
             have p176 : 0 ≤ (x5_1 : Int) := od_
             have q176 : x5_1 < (l1.length : Int) := od_
             obtain ⟨ad176, A176_2, c176_2, e176, hx176_0, hx176_1, hx176_2, hl176_2, hi176_2⟩ := at_T91 HR1.out x5_1 p176 q176
             cases e176
             replace hx176_0 := hb_ HB hx176_0
             replace hx176_1 := hb_ HB hx176_1
             replace hx176_2 := hb_ HB hx176_2
             have HR176_2 := Aside0.mk hi176_2
             have HC176_2 := Aside0.mk hl176_2
             clear hi176_2 hl176_2
             replace p176 := eq_true p176
             replace q176 := eq_true q176
             try go_wp2_with (first | ((with_reducible refine gate_callee (f := 55) rfl ?_); refine gsL_ (some 24) Try.func55 #[.slice A0 l0.length c0, .string ((rd_T91 l1 x5_1).f0)] ?_; (with_reducible refine (spec_l04Rel.calls k1 (fun k_ => k_ < w.heap.size) _ _ l0 ((rd_T91 l1 x5_1).f0) t177 t178 true _ ?side1 A8.out).mono ?_); (case side1 => exact Kd.V_mk HC0.out (Kd.F_below (Kd.C_F k91_heap HR0.out) bb_)); rintro e w41 ⟨v179, rfl, ho0, hb⟩; refine ⟨_, rfl, ?_⟩; have HO180 := Aside0.mk (Kd.V_lower (Kd.V_mono (ok' := fun k_ => True) ho0 (fun k_ hk_ => trivial)) (below_size bb_)); replace HB := bs_ hb; (try clear hb); (try clear hb2); (try clear hk); (try clear hi); (try clear ho0)) | ((with_reducible refine gate_dst (N := 6) rfl ?_); refine bx_ 6 #[.int .i64 0, .slice none 0 0] 40 ?_; intro gb182 hg w42 hbox hb; have BK182 := Aside0.mk (hbox); have GW182 := gw_ hg; have GE182 := gw_ hg; replace HO180 := Aside0.mk (Kd.V_below (Kd.V_elderB (by (with_reducible repeat (first | apply Kd.V_alloc | apply Kd.V_drewN | apply Kd.V_drew)); exact HO180.out) gb182 (Nat.le_of_eq hg.symm)) hb); replace HB := bs_ hb; clear hb hbox hg; obtain ⟨hcz43_0, hcz43_1, hfz43_0, hfz43_1⟩ := b2_ BK182; obtain ⟨Ao44, co44, eo44⟩ := Kd.V_slice HO180.out; subst eo44))
             have n0_ : Aside0 (Kd.V k74 74 ((w42.setCell ⟨gb182, 0, none⟩ (.int .i64 t177)).setCell ⟨gb182, 1, none⟩ (.slice Ao44 t178.length co44)) w.heap.size (fun k_ => k_ ≠ gb182) (.slice Ao44 t178.length co44) t178) := ⟨by (with_reducible repeat (first | apply Kd.V_alloc | apply Kd.V_drewN | apply Kd.V_drew)); exact Kd.V_mono (Kd.V_far (p := ⟨gb182, 1, none⟩) (Kd.V_far (p := ⟨gb182, 0, none⟩) (Kd.V_mono HO180.out (fun k_ hk => (⟨hk, hk.2⟩ : _ ∧ k_ ≠ gb182))) (fun _ hk => hk.2) (.int .i64 t177)) (fun _ hk => hk.2) (.slice Ao44 t178.length co44)) (fun _ hk => hk.1.2)⟩
             have n1_ : Aside0 (((w42.setCell ⟨gb182, 0, none⟩ (.int .i64 t177)).setCell ⟨gb182, 1, none⟩ (.slice Ao44 t178.length co44)).heap[gb182]? = some (.cells #[.int .i64 t177, .slice Ao44 t178.length co44] 40 (0, 0))) := ⟨(bp2_ (bkx_ BK182.out))⟩
             have n2_ : Aside0 (Below w.heap.size w ((w42.setCell ⟨gb182, 0, none⟩ (.int .i64 t177)).setCell ⟨gb182, 1, none⟩ (.slice Ao44 t178.length co44))) := ⟨bb_⟩
             (try clear HO180)
             (try clear BK182)
             (try clear HB)
             generalize ((w42.setCell ⟨gb182, 0, none⟩ (.int .i64 t177)).setCell ⟨gb182, 1, none⟩ (.slice Ao44 t178.length co44)) = w45 at n0_ n1_ n2_ ⊢
             have HO180 := n0_
             have BK182 := n1_
             have HB := n2_
             clear n0_ n1_ n2_
             replace HO180 := Aside0.mk (Kd.V_drew HO180.out)
             replace BK182 := Aside0.mk (blk_drew BK182.out)
             replace HB := Aside0.mk (below_drew1 HB.out)
             have p183 : 0 ≤ (x5_1 : Int) := od_
             have q183 : x5_1 < (l1.length : Int) := od_
             obtain ⟨ad183, A183_2, c183_2, e183, hx183_0, hx183_1, hx183_2, hl183_2, hi183_2⟩ := at_T91 HR1.out x5_1 p183 q183
             have hw183_2 := hx183_2
             have hw183_1 := hx183_1
             have hw183_0 := hx183_0
             obtain rfl : ad176 = ad183 := (by injection e183)
             replace hx183_0 := hb_ HB hx183_0
             replace hx183_1 := hb_ HB hx183_1
             replace hx183_2 := hb_ HB hx183_2
             have HR183_2 := Aside0.mk hi183_2
             have HC183_2 := Aside0.mk hl183_2
             clear hi183_2 hl183_2
             replace p183 := eq_true p183
             replace q183 := eq_true q183
             have p184 : 0 ≤ (x5_1 : Int) := od_
             have q184 : x5_1 < (l1.length : Int) := od_
             obtain ⟨ad184, A184_2, c184_2, e184, hx184_0, hx184_1, hx184_2, hl184_2, hi184_2⟩ := at_T91 HR1.out x5_1 p184 q184
             have hw184_2 := hx184_2
             have hw184_1 := hx184_1
             have hw184_0 := hx184_0
             obtain rfl : ad176 = ad184 := (by injection e184)
             replace hx184_0 := hb_ HB hx184_0
             replace hx184_1 := hb_ HB hx184_1
             replace hx184_2 := hb_ HB hx184_2
             have HR184_2 := Aside0.mk hi184_2
             have HC184_2 := Aside0.mk hl184_2
             clear hi184_2 hl184_2
             replace p184 := eq_true p184
             replace q184 := eq_true q184
             have ea_ := Option.some.inj (hx183_2.symm.trans hx184_2)
             injection ea_ with ea_ en_ ec_
             subst ea_
             subst ec_
             clear en_
             have p186 : 0 ≤ (x5_1 : Int) := od_
             have q186 : x5_1 < (l1.length : Int) := od_
             obtain ⟨ad186, A186_2, c186_2, e186, hx186_0, hx186_1, hx186_2, hl186_2, hi186_2⟩ := at_T91 HR1.out x5_1 p186 q186
             have hw186_2 := hx186_2
             have hw186_1 := hx186_1
             have hw186_0 := hx186_0
             obtain rfl : ad176 = ad186 := (by injection e186)
             replace hx186_0 := hb_ HB hx186_0
             replace hx186_1 := hb_ HB hx186_1
             replace hx186_2 := hb_ HB hx186_2
             have HR186_2 := Aside0.mk hi186_2
             have HC186_2 := Aside0.mk hl186_2
             clear hi186_2 hl186_2
             replace p186 := eq_true p186
             replace q186 := eq_true q186
             have ea_ := Option.some.inj (hx183_2.symm.trans hx186_2)
             injection ea_ with ea_ en_ ec_
             subst ea_
             subst ec_
             clear en_
             have p187 : 0 ≤ ((ji14) : Int) := od_
             have q187 : (ji14) < (l1.length : Int) := od_
             obtain ⟨ad187, A187_2, c187_2, e187, hx187_0, hx187_1, hx187_2, hl187_2, hi187_2⟩ := at_T91 HR1.out (ji14) p187 q187
             have hw187_2 := hx187_2
             have hw187_1 := hx187_1
             have hw187_0 := hx187_0
             obtain rfl : ad176 = ad187 := (by injection e187)
             replace hx187_0 := hb_ HB hx187_0
             replace hx187_1 := hb_ HB hx187_1
             replace hx187_2 := hb_ HB hx187_2
             have HR187_2 := Aside0.mk hi187_2
             have HC187_2 := Aside0.mk hl187_2
             clear hi187_2 hl187_2
             replace p187 := eq_true p187
             replace q187 := eq_true q187
             refine start_ (n := 51) (S := fun w' => w'.cell? ⟨gb182, 0, none⟩ = some (.int .i64 t177) ∧ w'.cell? ⟨gb182, 1, none⟩ = some (.slice Ao44 t178.length co44) ∧ w'.cell? (ad176.add ((x5_1).toNat * 3)) = some (.string ((rd_T91 l1 x5_1).f0)) ∧ w'.cell? ⟨(ad176.add ((x5_1).toNat * 3)).block, (ad176.add ((x5_1).toNat * 3)).off + 1, none⟩ = some (.int .i64 ((rd_T91 l1 x5_1).f1.f0)) ∧ w'.cell? ⟨(ad176.add ((x5_1).toNat * 3)).block, (ad176.add ((x5_1).toNat * 3)).off + 2, none⟩ = some (.slice A183_2 ((rd_T91 l1 x5_1).f1.f1).length c183_2) ∧ w'.cell? (ad176.add ((x5_1).toNat * 3)) = some (.string ((rd_T91 l1 x5_1).f0)) ∧ w'.cell? ⟨(ad176.add ((x5_1).toNat * 3)).block, (ad176.add ((x5_1).toNat * 3)).off + 1, none⟩ = some (.int .i64 ((rd_T91 l1 x5_1).f1.f0)) ∧ w'.cell? ⟨(ad176.add ((x5_1).toNat * 3)).block, (ad176.add ((x5_1).toNat * 3)).off + 2, none⟩ = some (.slice A183_2 ((rd_T91 l1 x5_1).f1.f1).length c183_2) ∧ w'.cell? (ad176.add ((x5_1).toNat * 3)) = some (.string ((rd_T91 l1 x5_1).f0)) ∧ w'.cell? ⟨(ad176.add ((x5_1).toNat * 3)).block, (ad176.add ((x5_1).toNat * 3)).off + 1, none⟩ = some (.int .i64 ((rd_T91 l1 x5_1).f1.f0)) ∧ w'.cell? ⟨(ad176.add ((x5_1).toNat * 3)).block, (ad176.add ((x5_1).toNat * 3)).off + 2, none⟩ = some (.slice A183_2 ((rd_T91 l1 x5_1).f1.f1).length c183_2) ∧ w'.cell? (ad176.add (((ji14)).toNat * 3)) = some (.string ((rd_T91 l1 (ji14)).f0)) ∧ w'.cell? ⟨(ad176.add (((ji14)).toNat * 3)).block, (ad176.add (((ji14)).toNat * 3)).off + 1, none⟩ = some (.int .i64 ((rd_T91 l1 (ji14)).f1.f0)) ∧ w'.cell? ⟨(ad176.add (((ji14)).toNat * 3)).block, (ad176.add (((ji14)).toNat * 3)).off + 2, none⟩ = some (.slice A187_2 ((rd_T91 l1 (ji14)).f1.f1).length c187_2)) (ds := []) (tf 0 51) (by kernel_rfl) rfl rfl ⟨bc_ BK182 0, bc_ BK182 1, (hb_ HB hw183_0), (hb_ HB hw183_1), (hb_ HB hw183_2), (hb_ HB hw184_0), (hb_ HB hw184_1), (hb_ HB hw184_2), (hb_ HB hw186_0), (hb_ HB hw186_1), (hb_ HB hw186_2), (hb_ HB hw187_0), (hb_ HB hw187_1), (hb_ HB hw187_2)⟩ (fun hHeld => ?_); refine with_tabW spec_ChangeOk.tab7 spec_ChangeOk.bits7 (fun HT_ HW_ => ?_)
             generalize w45.drew = w46 at HO180 BK182 HB HR183_2 HR184_2 HR186_2 HR187_2 hx183_0 hx183_1 hx183_2 hx184_0 hx184_1 hx184_2 hx186_0 hx186_1 hx186_2 hx187_0 hx187_1 hx187_2 hHeld ⊢
             iterate 4 (refine pl_ ?_)
             refine plx_ 5 #[true, true, true, true, false, true, false, false, false, false, false, false, false, false, false, false, false, false, false, false, false, false, false, false, false, false, false, false, false, false, false, false, false, false, false, false, false, false, false, false, false, false, false, false, false, false, false, false, false, false, false] ?_
             refine plx_ 6 #[true, true, true, true, false, true, true, false, false, false, false, false, false, false, false, false, false, false, false, false, false, false, false, false, false, false, false, false, false, false, false, false, false, false, false, false, false, false, false, false, false, false, false, false, false, false, false, false, false, false, false] ?_
             refine plx_ 7 #[true, true, true, true, false, true, true, true, false, false, false, false, false, false, false, false, false, false, false, false, false, false, false, false, false, false, false, false, false, false, false, false, false, false, false, false, false, false, false, false, false, false, false, false, false, false, false, false, false, false, false] ?_
             refine plx_ 8 #[true, true, true, true, false, true, true, true, true, false, false, false, false, false, false, false, false, false, false, false, false, false, false, false, false, false, false, false, false, false, false, false, false, false, false, false, false, false, false, false, false, false, false, false, false, false, false, false, false, false, false] ?_
             refine plx_ 9 #[true, true, true, true, false, true, true, true, true, true, false, false, false, false, false, false, false, false, false, false, false, false, false, false, false, false, false, false, false, false, false, false, false, false, false, false, false, false, false, false, false, false, false, false, false, false, false, false, false, false, false] ?_
             refine tlx_ 4 (tf 10 41) ?_
             refine tl_ ?_
             iterate 7 (refine pl_ ?_)
             refine tl_ ?_
             refine one_ (i := 19) (N := some 46) (tf 20 31) rfl rfl (one_of HT_.out (by kernel_rfl)) (by decide) (fun K hK => ?_)
             refine gs_ Try.func56 #[.agg #[.int .i64 ((rd_T91 l1 x5_1).f1.f0), .slice A183_2 ((rd_T91 l1 x5_1).f1.f1).length c183_2]] ?_
             with_reducible refine (spec_BagOk.calls k1 ((rd_T91 l1 x5_1).f1.f0) _ _ ((rd_T91 l1 x5_1).f1.f1) true _ ?side1 ?side2 A11.out).mono ?_
             (case side1 => exact ck_ (Kd.C_below HR184_2.out HB.out))
             (case side2 => exact HC184_2.out)
             rintro e w47 ⟨rfl, hb⟩
             refine ⟨_, rfl, ?_⟩
             replace HO180 := Aside0.mk (Kd.V_below (by (with_reducible repeat (first | apply Kd.V_alloc | apply Kd.V_drewN | apply Kd.V_drew)); exact HO180.out) hb)
             replace BK182 := bkb_ BK182 hb
             replace HB := bs_ hb
             (try clear hb)
             (try clear hb2)
             (try clear hk)
             (try clear hi)
             refine hK.out _ _ ⟨bc_ BK182 0, bc_ BK182 1, (have h_ := hb_ HB hw183_0; h_), (have h_ := hb_ HB hw183_1; h_), (have h_ := hb_ HB hw183_2; h_), (have h_ := hb_ HB hw184_0; h_), (have h_ := hb_ HB hw184_1; h_), (have h_ := hb_ HB hw184_2; h_), (have h_ := hb_ HB hw186_0; h_), (have h_ := hb_ HB hw186_1; h_), (have h_ := hb_ HB hw186_2; h_), (have h_ := hb_ HB hw187_0; h_), (have h_ := hb_ HB hw187_1; h_), (have h_ := hb_ HB hw187_2; h_)⟩ (fun hHeld => ?_)
             clear hK K
             refine nm_ ?_
             refine plx_ 20 (tf 21 30) ?_
             iterate 9 (refine pl_ ?_)
             refine plx_ 31 #[true, true, true, true, true, true, true, true, true, true, true, true, true, true, true, true, true, true, true, true, true, true, true, true, true, true, true, true, true, true, false, true, false, false, false, false, false, false, false, false, false, false, false, false, false, false, false, false, false, false, false] ?_
             refine plx_ 32 #[true, true, true, true, true, true, true, true, true, true, true, true, true, true, true, true, true, true, true, true, true, true, true, true, true, true, true, true, true, true, false, true, true, false, false, false, false, false, false, false, false, false, false, false, false, false, false, false, false, false, false] ?_
             refine plx_ 33 #[true, true, true, true, true, true, true, true, true, true, true, true, true, true, true, true, true, true, true, true, true, true, true, true, true, true, true, true, true, true, false, true, true, true, false, false, false, false, false, false, false, false, false, false, false, false, false, false, false, false, false] ?_
             refine plx_ 34 #[true, true, true, true, true, true, true, true, true, true, true, true, true, true, true, true, true, true, true, true, true, true, true, true, true, true, true, true, true, true, false, true, true, true, true, false, false, false, false, false, false, false, false, false, false, false, false, false, false, false, false] ?_
             refine plx_ 35 #[true, true, true, true, true, true, true, true, true, true, true, true, true, true, true, true, true, true, true, true, true, true, true, true, true, true, true, true, true, true, false, true, true, true, true, true, false, false, false, false, false, false, false, false, false, false, false, false, false, false, false] ?_
             refine tlx_ 30 (tf 36 15) ?_
             refine tl_ ?_
             iterate 4 (refine pl_ ?_)
             iterate 9 (refine pd_ ?_)
             refine pl_ ?_
             refine done_ (done_of HT_.out (by kernel_rfl)) ?_
             try go_wp2
             go_ret
             exact ⟨by first | rfl | (simp [errW_none, errW_some] <;> rfl) | (simp only [← hji14]; first | rfl | (simp [errW_none, errW_some] <;> rfl)) | (simp [*, errW_none, errW_some] <;> rfl), by repeat (first | (with_reducible first | exact HB.out | apply below_alloc | apply pw_below_drewN | apply below_drew1 | refine below_set ?_ GE182.out) | exact HB.out)⟩
           ·rw [if_neg c16] at H
            exact absurd H (by simp)
          ·rw [if_neg c15] at H
           exact absurd H (by simp)
         ·rw [if_neg c13] at H
          have c13b0 : decide (0 < x5_1) = false := decide_eq_false c13
          clear c13
          replace H := Option.bind_eq_some_iff.mp H
          obtain ⟨⟨t195, t196⟩, A480, H⟩ := H
          replace H : ((spec_Plain.f k1 t195 t196).bind fun t199 => (if t199 = true then (spec_ChangeOk.l0 k1 l0 l1 (wrap64 (x5_1 + 1))) else (some false))) = some r := H
          have A48 := Aside0.mk A480
          clear A480
          replace H := Option.bind_eq_some_iff.mp H
          obtain ⟨t199, A490, H⟩ := H
          replace H : (if t199 = true then (spec_ChangeOk.l0 k1 l0 l1 (wrap64 (x5_1 + 1))) else (some false)) = some r := H
          have A49 := Aside0.mk A490
          clear A490
          by_cases c50 : t199 = true
          ·subst c50
           have H1 : (spec_ChangeOk.l0 k1 l0 l1 (wrap64 (x5_1 + 1))) = some r := by rw [if_pos rfl] at H; exact H
           clear H
           have H := H1
           clear H1
           have H' := Aside0.mk H
           clear H
           have p176 : 0 ≤ (x5_1 : Int) := od_
           have q176 : x5_1 < (l1.length : Int) := od_
           obtain ⟨ad176, A176_2, c176_2, e176, hx176_0, hx176_1, hx176_2, hl176_2, hi176_2⟩ := at_T91 HR1.out x5_1 p176 q176
           cases e176
           replace hx176_0 := hb_ HB hx176_0
           replace hx176_1 := hb_ HB hx176_1
           replace hx176_2 := hb_ HB hx176_2
           have HR176_2 := Aside0.mk hi176_2
           have HC176_2 := Aside0.mk hl176_2
           clear hi176_2 hl176_2
           replace p176 := eq_true p176
           replace q176 := eq_true q176
           try go_wp2_with (first | ((with_reducible refine gate_callee (f := 55) rfl ?_); refine gsL_ (some 24) Try.func55 #[.slice A0 l0.length c0, .string ((rd_T91 l1 x5_1).f0)] ?_; (with_reducible refine (spec_l04Rel.calls k1 (fun k_ => k_ < w.heap.size) _ _ l0 ((rd_T91 l1 x5_1).f0) t177 t178 true _ ?side1 A8.out).mono ?_); (case side1 => exact Kd.V_mk HC0.out (Kd.F_below (Kd.C_F k91_heap HR0.out) bb_)); rintro e w51 ⟨v179, rfl, ho0, hb⟩; refine ⟨_, rfl, ?_⟩; have HO180 := Aside0.mk (Kd.V_lower (Kd.V_mono (ok' := fun k_ => True) ho0 (fun k_ hk_ => trivial)) (below_size bb_)); replace HB := bs_ hb; (try clear hb); (try clear hb2); (try clear hk); (try clear hi); (try clear ho0)) | ((with_reducible refine gate_dst (N := 6) rfl ?_); refine bx_ 6 #[.int .i64 0, .slice none 0 0] 40 ?_; intro gb182 hg w52 hbox hb; have BK182 := Aside0.mk (hbox); have GW182 := gw_ hg; have GE182 := gw_ hg; replace HO180 := Aside0.mk (Kd.V_below (Kd.V_elderB (by (with_reducible repeat (first | apply Kd.V_alloc | apply Kd.V_drewN | apply Kd.V_drew)); exact HO180.out) gb182 (Nat.le_of_eq hg.symm)) hb); replace HB := bs_ hb; clear hb hbox hg; obtain ⟨hcz53_0, hcz53_1, hfz53_0, hfz53_1⟩ := b2_ BK182; obtain ⟨Ao54, co54, eo54⟩ := Kd.V_slice HO180.out; subst eo54))
           have n0_ : Aside0 (Kd.V k74 74 ((w52.setCell ⟨gb182, 0, none⟩ (.int .i64 t177)).setCell ⟨gb182, 1, none⟩ (.slice Ao54 t178.length co54)) w.heap.size (fun k_ => k_ ≠ gb182) (.slice Ao54 t178.length co54) t178) := ⟨by (with_reducible repeat (first | apply Kd.V_alloc | apply Kd.V_drewN | apply Kd.V_drew)); exact Kd.V_mono (Kd.V_far (p := ⟨gb182, 1, none⟩) (Kd.V_far (p := ⟨gb182, 0, none⟩) (Kd.V_mono HO180.out (fun k_ hk => (⟨hk, hk.2⟩ : _ ∧ k_ ≠ gb182))) (fun _ hk => hk.2) (.int .i64 t177)) (fun _ hk => hk.2) (.slice Ao54 t178.length co54)) (fun _ hk => hk.1.2)⟩
           have n1_ : Aside0 (((w52.setCell ⟨gb182, 0, none⟩ (.int .i64 t177)).setCell ⟨gb182, 1, none⟩ (.slice Ao54 t178.length co54)).heap[gb182]? = some (.cells #[.int .i64 t177, .slice Ao54 t178.length co54] 40 (0, 0))) := ⟨(bp2_ (bkx_ BK182.out))⟩
           have n2_ : Aside0 (Below w.heap.size w ((w52.setCell ⟨gb182, 0, none⟩ (.int .i64 t177)).setCell ⟨gb182, 1, none⟩ (.slice Ao54 t178.length co54))) := ⟨bb_⟩
           (try clear HO180)
           (try clear BK182)
           (try clear HB)
           generalize ((w52.setCell ⟨gb182, 0, none⟩ (.int .i64 t177)).setCell ⟨gb182, 1, none⟩ (.slice Ao54 t178.length co54)) = w55 at n0_ n1_ n2_ ⊢
           have HO180 := n0_
           have BK182 := n1_
           have HB := n2_
           clear n0_ n1_ n2_
           replace HO180 := Aside0.mk (Kd.V_drew HO180.out)
           replace BK182 := Aside0.mk (blk_drew BK182.out)
           replace HB := Aside0.mk (below_drew1 HB.out)
           have p183 : 0 ≤ (x5_1 : Int) := od_
           have q183 : x5_1 < (l1.length : Int) := od_
           obtain ⟨ad183, A183_2, c183_2, e183, hx183_0, hx183_1, hx183_2, hl183_2, hi183_2⟩ := at_T91 HR1.out x5_1 p183 q183
           have hw183_2 := hx183_2
           have hw183_1 := hx183_1
           have hw183_0 := hx183_0
           obtain rfl : ad176 = ad183 := (by injection e183)
           replace hx183_0 := hb_ HB hx183_0
           replace hx183_1 := hb_ HB hx183_1
           replace hx183_2 := hb_ HB hx183_2
           have HR183_2 := Aside0.mk hi183_2
           have HC183_2 := Aside0.mk hl183_2
           clear hi183_2 hl183_2
           replace p183 := eq_true p183
           replace q183 := eq_true q183
           have p184 : 0 ≤ (x5_1 : Int) := od_
           have q184 : x5_1 < (l1.length : Int) := od_
           obtain ⟨ad184, A184_2, c184_2, e184, hx184_0, hx184_1, hx184_2, hl184_2, hi184_2⟩ := at_T91 HR1.out x5_1 p184 q184
           have hw184_2 := hx184_2
           have hw184_1 := hx184_1
           have hw184_0 := hx184_0
           obtain rfl : ad176 = ad184 := (by injection e184)
           replace hx184_0 := hb_ HB hx184_0
           replace hx184_1 := hb_ HB hx184_1
           replace hx184_2 := hb_ HB hx184_2
           have HR184_2 := Aside0.mk hi184_2
           have HC184_2 := Aside0.mk hl184_2
           clear hi184_2 hl184_2
           replace p184 := eq_true p184
           replace q184 := eq_true q184
           have ea_ := Option.some.inj (hx183_2.symm.trans hx184_2)
           injection ea_ with ea_ en_ ec_
           subst ea_
           subst ec_
           clear en_
           have p194 : 0 ≤ (x5_1 : Int) := od_
           have q194 : x5_1 < (l1.length : Int) := od_
           obtain ⟨ad194, A194_2, c194_2, e194, hx194_0, hx194_1, hx194_2, hl194_2, hi194_2⟩ := at_T91 HR1.out x5_1 p194 q194
           have hw194_2 := hx194_2
           have hw194_1 := hx194_1
           have hw194_0 := hx194_0
           obtain rfl : ad176 = ad194 := (by injection e194)
           replace hx194_0 := hb_ HB hx194_0
           replace hx194_1 := hb_ HB hx194_1
           replace hx194_2 := hb_ HB hx194_2
           have HR194_2 := Aside0.mk hi194_2
           have HC194_2 := Aside0.mk hl194_2
           clear hi194_2 hl194_2
           replace p194 := eq_true p194
           replace q194 := eq_true q194
           have ea_ := Option.some.inj (hx183_2.symm.trans hx194_2)
           injection ea_ with ea_ en_ ec_
           subst ea_
           subst ec_
           clear en_
           refine start_ (n := 51) (S := fun w' => w'.cell? ⟨gb182, 0, none⟩ = some (.int .i64 t177) ∧ w'.cell? ⟨gb182, 1, none⟩ = some (.slice Ao54 t178.length co54) ∧ w'.cell? (ad176.add ((x5_1).toNat * 3)) = some (.string ((rd_T91 l1 x5_1).f0)) ∧ w'.cell? ⟨(ad176.add ((x5_1).toNat * 3)).block, (ad176.add ((x5_1).toNat * 3)).off + 1, none⟩ = some (.int .i64 ((rd_T91 l1 x5_1).f1.f0)) ∧ w'.cell? ⟨(ad176.add ((x5_1).toNat * 3)).block, (ad176.add ((x5_1).toNat * 3)).off + 2, none⟩ = some (.slice A183_2 ((rd_T91 l1 x5_1).f1.f1).length c183_2) ∧ w'.cell? (ad176.add ((x5_1).toNat * 3)) = some (.string ((rd_T91 l1 x5_1).f0)) ∧ w'.cell? ⟨(ad176.add ((x5_1).toNat * 3)).block, (ad176.add ((x5_1).toNat * 3)).off + 1, none⟩ = some (.int .i64 ((rd_T91 l1 x5_1).f1.f0)) ∧ w'.cell? ⟨(ad176.add ((x5_1).toNat * 3)).block, (ad176.add ((x5_1).toNat * 3)).off + 2, none⟩ = some (.slice A183_2 ((rd_T91 l1 x5_1).f1.f1).length c183_2) ∧ w'.cell? (ad176.add ((x5_1).toNat * 3)) = some (.string ((rd_T91 l1 x5_1).f0)) ∧ w'.cell? ⟨(ad176.add ((x5_1).toNat * 3)).block, (ad176.add ((x5_1).toNat * 3)).off + 1, none⟩ = some (.int .i64 ((rd_T91 l1 x5_1).f1.f0)) ∧ w'.cell? ⟨(ad176.add ((x5_1).toNat * 3)).block, (ad176.add ((x5_1).toNat * 3)).off + 2, none⟩ = some (.slice A183_2 ((rd_T91 l1 x5_1).f1.f1).length c183_2)) (ds := []) (tf 0 51) (by kernel_rfl) rfl rfl ⟨bc_ BK182 0, bc_ BK182 1, (hb_ HB hw183_0), (hb_ HB hw183_1), (hb_ HB hw183_2), (hb_ HB hw184_0), (hb_ HB hw184_1), (hb_ HB hw184_2), (hb_ HB hw194_0), (hb_ HB hw194_1), (hb_ HB hw194_2)⟩ (fun hHeld => ?_); refine with_tabW spec_ChangeOk.tab7 spec_ChangeOk.bits7 (fun HT_ HW_ => ?_)
           generalize w55.drew = w56 at HO180 BK182 HB HR183_2 HR184_2 HR194_2 hx183_0 hx183_1 hx183_2 hx184_0 hx184_1 hx184_2 hx194_0 hx194_1 hx194_2 hHeld ⊢
           iterate 4 (refine pl_ ?_)
           refine plx_ 5 #[true, true, true, true, false, true, false, false, false, false, false, false, false, false, false, false, false, false, false, false, false, false, false, false, false, false, false, false, false, false, false, false, false, false, false, false, false, false, false, false, false, false, false, false, false, false, false, false, false, false, false] ?_
           refine plx_ 6 #[true, true, true, true, false, true, true, false, false, false, false, false, false, false, false, false, false, false, false, false, false, false, false, false, false, false, false, false, false, false, false, false, false, false, false, false, false, false, false, false, false, false, false, false, false, false, false, false, false, false, false] ?_
           refine plx_ 7 #[true, true, true, true, false, true, true, true, false, false, false, false, false, false, false, false, false, false, false, false, false, false, false, false, false, false, false, false, false, false, false, false, false, false, false, false, false, false, false, false, false, false, false, false, false, false, false, false, false, false, false] ?_
           refine plx_ 8 #[true, true, true, true, false, true, true, true, true, false, false, false, false, false, false, false, false, false, false, false, false, false, false, false, false, false, false, false, false, false, false, false, false, false, false, false, false, false, false, false, false, false, false, false, false, false, false, false, false, false, false] ?_
           refine plx_ 9 #[true, true, true, true, false, true, true, true, true, true, false, false, false, false, false, false, false, false, false, false, false, false, false, false, false, false, false, false, false, false, false, false, false, false, false, false, false, false, false, false, false, false, false, false, false, false, false, false, false, false, false] ?_
           refine tlx_ 4 (tf 10 41) ?_
           refine tl_ ?_
           iterate 7 (refine pl_ ?_)
           refine tl_ ?_
           refine one_ (i := 19) (N := some 46) (tf 20 31) rfl rfl (one_of HT_.out (by kernel_rfl)) (by decide) (fun K hK => ?_)
           refine gs_ Try.func56 #[.agg #[.int .i64 ((rd_T91 l1 x5_1).f1.f0), .slice A183_2 ((rd_T91 l1 x5_1).f1.f1).length c183_2]] ?_
           with_reducible refine (spec_BagOk.calls k1 ((rd_T91 l1 x5_1).f1.f0) _ _ ((rd_T91 l1 x5_1).f1.f1) true _ ?side1 ?side2 A11.out).mono ?_
           (case side1 => exact ck_ (Kd.C_below HR184_2.out HB.out))
           (case side2 => exact HC184_2.out)
           rintro e w57 ⟨rfl, hb⟩
           refine ⟨_, rfl, ?_⟩
           replace HO180 := Aside0.mk (Kd.V_below (by (with_reducible repeat (first | apply Kd.V_alloc | apply Kd.V_drewN | apply Kd.V_drew)); exact HO180.out) hb)
           replace BK182 := bkb_ BK182 hb
           replace HB := bs_ hb
           (try clear hb)
           (try clear hb2)
           (try clear hk)
           (try clear hi)
           refine hK.out _ _ ⟨bc_ BK182 0, bc_ BK182 1, (have h_ := hb_ HB hw183_0; h_), (have h_ := hb_ HB hw183_1; h_), (have h_ := hb_ HB hw183_2; h_), (have h_ := hb_ HB hw184_0; h_), (have h_ := hb_ HB hw184_1; h_), (have h_ := hb_ HB hw184_2; h_), (have h_ := hb_ HB hw194_0; h_), (have h_ := hb_ HB hw194_1; h_), (have h_ := hb_ HB hw194_2; h_)⟩ (fun hHeld => ?_)
           clear hK K
           refine nm_ ?_
           refine plx_ 20 (tf 21 30) ?_
           iterate 5 (refine pl_ ?_)
           iterate 12 (refine pd_ ?_)
           iterate 3 (refine pl_ ?_)
           refine plx_ 42 #[true, true, true, true, true, true, true, true, true, true, true, true, true, true, true, true, true, true, true, true, true, true, true, true, true, true, true, true, true, true, true, true, true, true, true, true, true, true, true, true, true, false, true, false, false, false, false, false, false, false, false] ?_
           refine plx_ 43 #[true, true, true, true, true, true, true, true, true, true, true, true, true, true, true, true, true, true, true, true, true, true, true, true, true, true, true, true, true, true, true, true, true, true, true, true, true, true, true, true, true, false, true, true, false, false, false, false, false, false, false] ?_
           refine plx_ 44 #[true, true, true, true, true, true, true, true, true, true, true, true, true, true, true, true, true, true, true, true, true, true, true, true, true, true, true, true, true, true, true, true, true, true, true, true, true, true, true, true, true, false, true, true, true, false, false, false, false, false, false] ?_
           refine plx_ 45 #[true, true, true, true, true, true, true, true, true, true, true, true, true, true, true, true, true, true, true, true, true, true, true, true, true, true, true, true, true, true, true, true, true, true, true, true, true, true, true, true, true, false, true, true, true, true, false, false, false, false, false] ?_
           refine tlx_ 41 (tf 46 5) ?_
           refine tl_ ?_
           refine one_ (i := 47) (N := some 74) (tf 48 3) rfl rfl (one_of HT_.out (by kernel_rfl)) (by decide) (fun K hK => ?_)
           refine gs_ Try.func58 #[.agg #[.int .i64 t177, .slice Ao54 t178.length co54], .agg #[.int .i64 ((rd_T91 l1 x5_1).f1.f0), .slice A183_2 ((rd_T91 l1 x5_1).f1.f1).length c183_2], .int .i64 1] ?_
           with_reducible refine (spec_l02Sum.calls k1 t177 _ _ t178 ((rd_T91 l1 x5_1).f1.f0) _ _ ((rd_T91 l1 x5_1).f1.f1) 1 t195 t196 _ ?side1 ?side2 ?side3 ?side4 A48.out).mono ?_
           (case side1 => exact ck_ (Kd.V_reads' HO180.out).2.2)
           (case side2 => exact (Kd.V_reads' HO180.out).2.1)
           (case side3 => exact ck_ (Kd.C_below HR194_2.out HB.out))
           (case side4 => exact HC194_2.out)
           rintro e w58 ⟨v197, rfl, ho0, hb⟩
           refine ⟨_, rfl, ?_⟩
           have HO198 := Aside0.mk (Kd.N_lower (Kd.N_mono (ok' := fun k_ => k_ ≠ gb182) ho0 (fun k_ hk_ => (Kd.freshB (g := gb182) (o := .cells #[.int .i64 t177, .slice Ao54 t178.length co54] 40 (0, 0)) (bkx_ BK182.out) k_ hk_))) (below_size bb_))
           replace HO180 := Aside0.mk (Kd.V_elder' (by (with_reducible repeat (first | apply Kd.V_alloc | apply Kd.V_drewN | apply Kd.V_drew)); exact HO180.out) (Kd.N_base ho0) hb)
           replace BK182 := bkb_ BK182 hb
           replace HB := bs_ hb
           (try clear hb)
           (try clear hb2)
           (try clear hk)
           (try clear hi)
           (try clear ho0)
           obtain ⟨Ao59, co59, eo59⟩ := Kd.N_slice HO198.out
           (first | subst eo59 | (injection eo59 with f1_ f2_ f3_; have f4_ := f1_.symm; have f5_ := f3_.symm; clear f1_ f2_ f3_; subst f4_; subst f5_))
           refine hK.out _ _ ⟨bc_ BK182 0, bc_ BK182 1, (have h_ := hb_ HB hw183_0; h_), (have h_ := hb_ HB hw183_1; h_), (have h_ := hb_ HB hw183_2; h_), (have h_ := hb_ HB hw184_0; h_), (have h_ := hb_ HB hw184_1; h_), (have h_ := hb_ HB hw184_2; h_), (have h_ := hb_ HB hw194_0; h_), (have h_ := hb_ HB hw194_1; h_), (have h_ := hb_ HB hw194_2; h_)⟩ (fun hHeld => ?_)
           clear hK K
           refine nm_ ?_
           refine one_ (i := 48) (N := some 75) (tf 49 2) rfl rfl (one_of HT_.out (by kernel_rfl)) (by decide) (fun K hK => ?_)
           refine gs_ Try.func57 #[.agg #[.int .i64 t195, .slice Ao59 t196.length co59]] ?_
           with_reducible refine (spec_Plain.calls k1 t195 _ _ t196 true _ ?side1 ?side2 A49.out).mono ?_
           (case side1 => exact ck_ (Kd.N_reads' HO198.out).2.2)
           (case side2 => exact (Kd.N_reads' HO198.out).2.1)
           rintro e w60 ⟨rfl, hb⟩
           refine ⟨_, rfl, ?_⟩
           replace HO180 := Aside0.mk (Kd.V_below (by (with_reducible repeat (first | apply Kd.V_alloc | apply Kd.V_drewN | apply Kd.V_drew)); exact HO180.out) hb)
           replace HO198 := Aside0.mk (Kd.N_below (by (with_reducible repeat (first | apply Kd.N_alloc | apply Kd.N_drewN | apply Kd.N_drew)); exact HO198.out) hb)
           replace BK182 := bkb_ BK182 hb
           replace HB := bs_ hb
           (try clear hb)
           (try clear hb2)
           (try clear hk)
           (try clear hi)
           refine hK.out _ _ ⟨bc_ BK182 0, bc_ BK182 1, (have h_ := hb_ HB hw183_0; h_), (have h_ := hb_ HB hw183_1; h_), (have h_ := hb_ HB hw183_2; h_), (have h_ := hb_ HB hw184_0; h_), (have h_ := hb_ HB hw184_1; h_), (have h_ := hb_ HB hw184_2; h_), (have h_ := hb_ HB hw194_0; h_), (have h_ := hb_ HB hw194_1; h_), (have h_ := hb_ HB hw194_2; h_)⟩ (fun hHeld => ?_)
           clear hK K
           refine nm_ ?_
           refine plx_ 49 (tf 50 1) ?_
           refine pl_ ?_
           refine done_ (done_of HT_.out (by kernel_rfl)) ?_
           try go_wp2
           go_roundg k1
           case measure => have := HK1.out; omega
           case rel => exact ⟨(wrap64 (x5_1 + 1)), rs_, H', ⟨by have := HK1.out; omega⟩, ⟨bb_⟩⟩
          ·replace c50 := Bool.eq_false_iff.mpr c50
           subst c50
           have H1 : (some false) = some r := by rw [if_neg (show ¬ (false = true) by decide)] at H; exact H
           clear H
           have H := H1
           clear H1
           obtain rfl := Option.some.inj H
           have p176 : 0 ≤ (x5_1 : Int) := od_
           have q176 : x5_1 < (l1.length : Int) := od_
           obtain ⟨ad176, A176_2, c176_2, e176, hx176_0, hx176_1, hx176_2, hl176_2, hi176_2⟩ := at_T91 HR1.out x5_1 p176 q176
           cases e176
           replace hx176_0 := hb_ HB hx176_0
           replace hx176_1 := hb_ HB hx176_1
           replace hx176_2 := hb_ HB hx176_2
           have HR176_2 := Aside0.mk hi176_2
           have HC176_2 := Aside0.mk hl176_2
           clear hi176_2 hl176_2
           replace p176 := eq_true p176
           replace q176 := eq_true q176
           try go_wp2_with (first | ((with_reducible refine gate_callee (f := 55) rfl ?_); refine gsL_ (some 24) Try.func55 #[.slice A0 l0.length c0, .string ((rd_T91 l1 x5_1).f0)] ?_; (with_reducible refine (spec_l04Rel.calls k1 (fun k_ => k_ < w.heap.size) _ _ l0 ((rd_T91 l1 x5_1).f0) t177 t178 true _ ?side1 A8.out).mono ?_); (case side1 => exact Kd.V_mk HC0.out (Kd.F_below (Kd.C_F k91_heap HR0.out) bb_)); rintro e w61 ⟨v179, rfl, ho0, hb⟩; refine ⟨_, rfl, ?_⟩; have HO180 := Aside0.mk (Kd.V_lower (Kd.V_mono (ok' := fun k_ => True) ho0 (fun k_ hk_ => trivial)) (below_size bb_)); replace HB := bs_ hb; (try clear hb); (try clear hb2); (try clear hk); (try clear hi); (try clear ho0)) | ((with_reducible refine gate_dst (N := 6) rfl ?_); refine bx_ 6 #[.int .i64 0, .slice none 0 0] 40 ?_; intro gb182 hg w62 hbox hb; have BK182 := Aside0.mk (hbox); have GW182 := gw_ hg; have GE182 := gw_ hg; replace HO180 := Aside0.mk (Kd.V_below (Kd.V_elderB (by (with_reducible repeat (first | apply Kd.V_alloc | apply Kd.V_drewN | apply Kd.V_drew)); exact HO180.out) gb182 (Nat.le_of_eq hg.symm)) hb); replace HB := bs_ hb; clear hb hbox hg; obtain ⟨hcz63_0, hcz63_1, hfz63_0, hfz63_1⟩ := b2_ BK182; obtain ⟨Ao64, co64, eo64⟩ := Kd.V_slice HO180.out; subst eo64))
           have n0_ : Aside0 (Kd.V k74 74 ((w62.setCell ⟨gb182, 0, none⟩ (.int .i64 t177)).setCell ⟨gb182, 1, none⟩ (.slice Ao64 t178.length co64)) w.heap.size (fun k_ => k_ ≠ gb182) (.slice Ao64 t178.length co64) t178) := ⟨by (with_reducible repeat (first | apply Kd.V_alloc | apply Kd.V_drewN | apply Kd.V_drew)); exact Kd.V_mono (Kd.V_far (p := ⟨gb182, 1, none⟩) (Kd.V_far (p := ⟨gb182, 0, none⟩) (Kd.V_mono HO180.out (fun k_ hk => (⟨hk, hk.2⟩ : _ ∧ k_ ≠ gb182))) (fun _ hk => hk.2) (.int .i64 t177)) (fun _ hk => hk.2) (.slice Ao64 t178.length co64)) (fun _ hk => hk.1.2)⟩
           have n1_ : Aside0 (((w62.setCell ⟨gb182, 0, none⟩ (.int .i64 t177)).setCell ⟨gb182, 1, none⟩ (.slice Ao64 t178.length co64)).heap[gb182]? = some (.cells #[.int .i64 t177, .slice Ao64 t178.length co64] 40 (0, 0))) := ⟨(bp2_ (bkx_ BK182.out))⟩
           have n2_ : Aside0 (Below w.heap.size w ((w62.setCell ⟨gb182, 0, none⟩ (.int .i64 t177)).setCell ⟨gb182, 1, none⟩ (.slice Ao64 t178.length co64))) := ⟨bb_⟩
           (try clear HO180)
           (try clear BK182)
           (try clear HB)
           generalize ((w62.setCell ⟨gb182, 0, none⟩ (.int .i64 t177)).setCell ⟨gb182, 1, none⟩ (.slice Ao64 t178.length co64)) = w65 at n0_ n1_ n2_ ⊢
           have HO180 := n0_
           have BK182 := n1_
           have HB := n2_
           clear n0_ n1_ n2_
           replace HO180 := Aside0.mk (Kd.V_drew HO180.out)
           replace BK182 := Aside0.mk (blk_drew BK182.out)
           replace HB := Aside0.mk (below_drew1 HB.out)
           have p183 : 0 ≤ (x5_1 : Int) := od_
           have q183 : x5_1 < (l1.length : Int) := od_
           obtain ⟨ad183, A183_2, c183_2, e183, hx183_0, hx183_1, hx183_2, hl183_2, hi183_2⟩ := at_T91 HR1.out x5_1 p183 q183
           have hw183_2 := hx183_2
           have hw183_1 := hx183_1
           have hw183_0 := hx183_0
           obtain rfl : ad176 = ad183 := (by injection e183)
           replace hx183_0 := hb_ HB hx183_0
           replace hx183_1 := hb_ HB hx183_1
           replace hx183_2 := hb_ HB hx183_2
           have HR183_2 := Aside0.mk hi183_2
           have HC183_2 := Aside0.mk hl183_2
           clear hi183_2 hl183_2
           replace p183 := eq_true p183
           replace q183 := eq_true q183
           have p184 : 0 ≤ (x5_1 : Int) := od_
           have q184 : x5_1 < (l1.length : Int) := od_
           obtain ⟨ad184, A184_2, c184_2, e184, hx184_0, hx184_1, hx184_2, hl184_2, hi184_2⟩ := at_T91 HR1.out x5_1 p184 q184
           have hw184_2 := hx184_2
           have hw184_1 := hx184_1
           have hw184_0 := hx184_0
           obtain rfl : ad176 = ad184 := (by injection e184)
           replace hx184_0 := hb_ HB hx184_0
           replace hx184_1 := hb_ HB hx184_1
           replace hx184_2 := hb_ HB hx184_2
           have HR184_2 := Aside0.mk hi184_2
           have HC184_2 := Aside0.mk hl184_2
           clear hi184_2 hl184_2
           replace p184 := eq_true p184
           replace q184 := eq_true q184
           have ea_ := Option.some.inj (hx183_2.symm.trans hx184_2)
           injection ea_ with ea_ en_ ec_
           subst ea_
           subst ec_
           clear en_
           have p194 : 0 ≤ (x5_1 : Int) := od_
           have q194 : x5_1 < (l1.length : Int) := od_
           obtain ⟨ad194, A194_2, c194_2, e194, hx194_0, hx194_1, hx194_2, hl194_2, hi194_2⟩ := at_T91 HR1.out x5_1 p194 q194
           have hw194_2 := hx194_2
           have hw194_1 := hx194_1
           have hw194_0 := hx194_0
           obtain rfl : ad176 = ad194 := (by injection e194)
           replace hx194_0 := hb_ HB hx194_0
           replace hx194_1 := hb_ HB hx194_1
           replace hx194_2 := hb_ HB hx194_2
           have HR194_2 := Aside0.mk hi194_2
           have HC194_2 := Aside0.mk hl194_2
           clear hi194_2 hl194_2
           replace p194 := eq_true p194
           replace q194 := eq_true q194
           have ea_ := Option.some.inj (hx183_2.symm.trans hx194_2)
           injection ea_ with ea_ en_ ec_
           subst ea_
           subst ec_
           clear en_
           refine start_ (n := 51) (S := fun w' => w'.cell? ⟨gb182, 0, none⟩ = some (.int .i64 t177) ∧ w'.cell? ⟨gb182, 1, none⟩ = some (.slice Ao64 t178.length co64) ∧ w'.cell? (ad176.add ((x5_1).toNat * 3)) = some (.string ((rd_T91 l1 x5_1).f0)) ∧ w'.cell? ⟨(ad176.add ((x5_1).toNat * 3)).block, (ad176.add ((x5_1).toNat * 3)).off + 1, none⟩ = some (.int .i64 ((rd_T91 l1 x5_1).f1.f0)) ∧ w'.cell? ⟨(ad176.add ((x5_1).toNat * 3)).block, (ad176.add ((x5_1).toNat * 3)).off + 2, none⟩ = some (.slice A183_2 ((rd_T91 l1 x5_1).f1.f1).length c183_2) ∧ w'.cell? (ad176.add ((x5_1).toNat * 3)) = some (.string ((rd_T91 l1 x5_1).f0)) ∧ w'.cell? ⟨(ad176.add ((x5_1).toNat * 3)).block, (ad176.add ((x5_1).toNat * 3)).off + 1, none⟩ = some (.int .i64 ((rd_T91 l1 x5_1).f1.f0)) ∧ w'.cell? ⟨(ad176.add ((x5_1).toNat * 3)).block, (ad176.add ((x5_1).toNat * 3)).off + 2, none⟩ = some (.slice A183_2 ((rd_T91 l1 x5_1).f1.f1).length c183_2) ∧ w'.cell? (ad176.add ((x5_1).toNat * 3)) = some (.string ((rd_T91 l1 x5_1).f0)) ∧ w'.cell? ⟨(ad176.add ((x5_1).toNat * 3)).block, (ad176.add ((x5_1).toNat * 3)).off + 1, none⟩ = some (.int .i64 ((rd_T91 l1 x5_1).f1.f0)) ∧ w'.cell? ⟨(ad176.add ((x5_1).toNat * 3)).block, (ad176.add ((x5_1).toNat * 3)).off + 2, none⟩ = some (.slice A183_2 ((rd_T91 l1 x5_1).f1.f1).length c183_2)) (ds := []) (tf 0 51) (by kernel_rfl) rfl rfl ⟨bc_ BK182 0, bc_ BK182 1, (hb_ HB hw183_0), (hb_ HB hw183_1), (hb_ HB hw183_2), (hb_ HB hw184_0), (hb_ HB hw184_1), (hb_ HB hw184_2), (hb_ HB hw194_0), (hb_ HB hw194_1), (hb_ HB hw194_2)⟩ (fun hHeld => ?_); refine with_tabW spec_ChangeOk.tab7 spec_ChangeOk.bits7 (fun HT_ HW_ => ?_)
           generalize w65.drew = w66 at HO180 BK182 HB HR183_2 HR184_2 HR194_2 hx183_0 hx183_1 hx183_2 hx184_0 hx184_1 hx184_2 hx194_0 hx194_1 hx194_2 hHeld ⊢
           iterate 4 (refine pl_ ?_)
           refine plx_ 5 #[true, true, true, true, false, true, false, false, false, false, false, false, false, false, false, false, false, false, false, false, false, false, false, false, false, false, false, false, false, false, false, false, false, false, false, false, false, false, false, false, false, false, false, false, false, false, false, false, false, false, false] ?_
           refine plx_ 6 #[true, true, true, true, false, true, true, false, false, false, false, false, false, false, false, false, false, false, false, false, false, false, false, false, false, false, false, false, false, false, false, false, false, false, false, false, false, false, false, false, false, false, false, false, false, false, false, false, false, false, false] ?_
           refine plx_ 7 #[true, true, true, true, false, true, true, true, false, false, false, false, false, false, false, false, false, false, false, false, false, false, false, false, false, false, false, false, false, false, false, false, false, false, false, false, false, false, false, false, false, false, false, false, false, false, false, false, false, false, false] ?_
           refine plx_ 8 #[true, true, true, true, false, true, true, true, true, false, false, false, false, false, false, false, false, false, false, false, false, false, false, false, false, false, false, false, false, false, false, false, false, false, false, false, false, false, false, false, false, false, false, false, false, false, false, false, false, false, false] ?_
           refine plx_ 9 #[true, true, true, true, false, true, true, true, true, true, false, false, false, false, false, false, false, false, false, false, false, false, false, false, false, false, false, false, false, false, false, false, false, false, false, false, false, false, false, false, false, false, false, false, false, false, false, false, false, false, false] ?_
           refine tlx_ 4 (tf 10 41) ?_
           refine tl_ ?_
           iterate 7 (refine pl_ ?_)
           refine tl_ ?_
           refine one_ (i := 19) (N := some 46) (tf 20 31) rfl rfl (one_of HT_.out (by kernel_rfl)) (by decide) (fun K hK => ?_)
           refine gs_ Try.func56 #[.agg #[.int .i64 ((rd_T91 l1 x5_1).f1.f0), .slice A183_2 ((rd_T91 l1 x5_1).f1.f1).length c183_2]] ?_
           with_reducible refine (spec_BagOk.calls k1 ((rd_T91 l1 x5_1).f1.f0) _ _ ((rd_T91 l1 x5_1).f1.f1) true _ ?side1 ?side2 A11.out).mono ?_
           (case side1 => exact ck_ (Kd.C_below HR184_2.out HB.out))
           (case side2 => exact HC184_2.out)
           rintro e w67 ⟨rfl, hb⟩
           refine ⟨_, rfl, ?_⟩
           replace HO180 := Aside0.mk (Kd.V_below (by (with_reducible repeat (first | apply Kd.V_alloc | apply Kd.V_drewN | apply Kd.V_drew)); exact HO180.out) hb)
           replace BK182 := bkb_ BK182 hb
           replace HB := bs_ hb
           (try clear hb)
           (try clear hb2)
           (try clear hk)
           (try clear hi)
           refine hK.out _ _ ⟨bc_ BK182 0, bc_ BK182 1, (have h_ := hb_ HB hw183_0; h_), (have h_ := hb_ HB hw183_1; h_), (have h_ := hb_ HB hw183_2; h_), (have h_ := hb_ HB hw184_0; h_), (have h_ := hb_ HB hw184_1; h_), (have h_ := hb_ HB hw184_2; h_), (have h_ := hb_ HB hw194_0; h_), (have h_ := hb_ HB hw194_1; h_), (have h_ := hb_ HB hw194_2; h_)⟩ (fun hHeld => ?_)
           clear hK K
           refine nm_ ?_
           refine plx_ 20 (tf 21 30) ?_
           iterate 5 (refine pl_ ?_)
           iterate 12 (refine pd_ ?_)
           iterate 3 (refine pl_ ?_)
           refine plx_ 42 #[true, true, true, true, true, true, true, true, true, true, true, true, true, true, true, true, true, true, true, true, true, true, true, true, true, true, true, true, true, true, true, true, true, true, true, true, true, true, true, true, true, false, true, false, false, false, false, false, false, false, false] ?_
           refine plx_ 43 #[true, true, true, true, true, true, true, true, true, true, true, true, true, true, true, true, true, true, true, true, true, true, true, true, true, true, true, true, true, true, true, true, true, true, true, true, true, true, true, true, true, false, true, true, false, false, false, false, false, false, false] ?_
           refine plx_ 44 #[true, true, true, true, true, true, true, true, true, true, true, true, true, true, true, true, true, true, true, true, true, true, true, true, true, true, true, true, true, true, true, true, true, true, true, true, true, true, true, true, true, false, true, true, true, false, false, false, false, false, false] ?_
           refine plx_ 45 #[true, true, true, true, true, true, true, true, true, true, true, true, true, true, true, true, true, true, true, true, true, true, true, true, true, true, true, true, true, true, true, true, true, true, true, true, true, true, true, true, true, false, true, true, true, true, false, false, false, false, false] ?_
           refine tlx_ 41 (tf 46 5) ?_
           refine tl_ ?_
           refine one_ (i := 47) (N := some 74) (tf 48 3) rfl rfl (one_of HT_.out (by kernel_rfl)) (by decide) (fun K hK => ?_)
           refine gs_ Try.func58 #[.agg #[.int .i64 t177, .slice Ao64 t178.length co64], .agg #[.int .i64 ((rd_T91 l1 x5_1).f1.f0), .slice A183_2 ((rd_T91 l1 x5_1).f1.f1).length c183_2], .int .i64 1] ?_
           with_reducible refine (spec_l02Sum.calls k1 t177 _ _ t178 ((rd_T91 l1 x5_1).f1.f0) _ _ ((rd_T91 l1 x5_1).f1.f1) 1 t195 t196 _ ?side1 ?side2 ?side3 ?side4 A48.out).mono ?_
           (case side1 => exact ck_ (Kd.V_reads' HO180.out).2.2)
           (case side2 => exact (Kd.V_reads' HO180.out).2.1)
           (case side3 => exact ck_ (Kd.C_below HR194_2.out HB.out))
           (case side4 => exact HC194_2.out)
           rintro e w68 ⟨v197, rfl, ho0, hb⟩
           refine ⟨_, rfl, ?_⟩
           have HO198 := Aside0.mk (Kd.N_lower (Kd.N_mono (ok' := fun k_ => k_ ≠ gb182) ho0 (fun k_ hk_ => (Kd.freshB (g := gb182) (o := .cells #[.int .i64 t177, .slice Ao64 t178.length co64] 40 (0, 0)) (bkx_ BK182.out) k_ hk_))) (below_size bb_))
           replace HO180 := Aside0.mk (Kd.V_elder' (by (with_reducible repeat (first | apply Kd.V_alloc | apply Kd.V_drewN | apply Kd.V_drew)); exact HO180.out) (Kd.N_base ho0) hb)
           replace BK182 := bkb_ BK182 hb
           replace HB := bs_ hb
           (try clear hb)
           (try clear hb2)
           (try clear hk)
           (try clear hi)
           (try clear ho0)
           obtain ⟨Ao69, co69, eo69⟩ := Kd.N_slice HO198.out
           (first | subst eo69 | (injection eo69 with f1_ f2_ f3_; have f4_ := f1_.symm; have f5_ := f3_.symm; clear f1_ f2_ f3_; subst f4_; subst f5_))
           refine hK.out _ _ ⟨bc_ BK182 0, bc_ BK182 1, (have h_ := hb_ HB hw183_0; h_), (have h_ := hb_ HB hw183_1; h_), (have h_ := hb_ HB hw183_2; h_), (have h_ := hb_ HB hw184_0; h_), (have h_ := hb_ HB hw184_1; h_), (have h_ := hb_ HB hw184_2; h_), (have h_ := hb_ HB hw194_0; h_), (have h_ := hb_ HB hw194_1; h_), (have h_ := hb_ HB hw194_2; h_)⟩ (fun hHeld => ?_)
           clear hK K
           refine nm_ ?_
           refine one_ (i := 48) (N := some 75) (tf 49 2) rfl rfl (one_of HT_.out (by kernel_rfl)) (by decide) (fun K hK => ?_)
           refine gs_ Try.func57 #[.agg #[.int .i64 t195, .slice Ao69 t196.length co69]] ?_
           with_reducible refine (spec_Plain.calls k1 t195 _ _ t196 false _ ?side1 ?side2 A49.out).mono ?_
           (case side1 => exact ck_ (Kd.N_reads' HO198.out).2.2)
           (case side2 => exact (Kd.N_reads' HO198.out).2.1)
           rintro e w70 ⟨rfl, hb⟩
           refine ⟨_, rfl, ?_⟩
           replace HO180 := Aside0.mk (Kd.V_below (by (with_reducible repeat (first | apply Kd.V_alloc | apply Kd.V_drewN | apply Kd.V_drew)); exact HO180.out) hb)
           replace HO198 := Aside0.mk (Kd.N_below (by (with_reducible repeat (first | apply Kd.N_alloc | apply Kd.N_drewN | apply Kd.N_drew)); exact HO198.out) hb)
           replace BK182 := bkb_ BK182 hb
           replace HB := bs_ hb
           (try clear hb)
           (try clear hb2)
           (try clear hk)
           (try clear hi)
           refine hK.out _ _ ⟨bc_ BK182 0, bc_ BK182 1, (have h_ := hb_ HB hw183_0; h_), (have h_ := hb_ HB hw183_1; h_), (have h_ := hb_ HB hw183_2; h_), (have h_ := hb_ HB hw184_0; h_), (have h_ := hb_ HB hw184_1; h_), (have h_ := hb_ HB hw184_2; h_), (have h_ := hb_ HB hw194_0; h_), (have h_ := hb_ HB hw194_1; h_), (have h_ := hb_ HB hw194_2; h_)⟩ (fun hHeld => ?_)
           clear hK K
           refine nm_ ?_
           refine plx_ 49 (tf 50 1) ?_
           refine pl_ ?_
           refine done_ (done_of HT_.out (by kernel_rfl)) ?_
           try go_wp2
           go_ret
           exact ⟨er_, bb_⟩
        ·replace c12 := Bool.eq_false_iff.mpr c12
         subst c12
         have H1 : (some false) = some r := by rw [if_neg (show ¬ (false = true) by decide)] at H; exact H
         clear H
         have H := H1
         clear H1
         obtain rfl := Option.some.inj H
         have p176 : 0 ≤ (x5_1 : Int) := od_
         have q176 : x5_1 < (l1.length : Int) := od_
         obtain ⟨ad176, A176_2, c176_2, e176, hx176_0, hx176_1, hx176_2, hl176_2, hi176_2⟩ := at_T91 HR1.out x5_1 p176 q176
         cases e176
         replace hx176_0 := hb_ HB hx176_0
         replace hx176_1 := hb_ HB hx176_1
         replace hx176_2 := hb_ HB hx176_2
         have HR176_2 := Aside0.mk hi176_2
         have HC176_2 := Aside0.mk hl176_2
         clear hi176_2 hl176_2
         replace p176 := eq_true p176
         replace q176 := eq_true q176
         try go_wp2_with (first | ((with_reducible refine gate_callee (f := 55) rfl ?_); refine gsL_ (some 24) Try.func55 #[.slice A0 l0.length c0, .string ((rd_T91 l1 x5_1).f0)] ?_; (with_reducible refine (spec_l04Rel.calls k1 (fun k_ => k_ < w.heap.size) _ _ l0 ((rd_T91 l1 x5_1).f0) t177 t178 true _ ?side1 A8.out).mono ?_); (case side1 => exact Kd.V_mk HC0.out (Kd.F_below (Kd.C_F k91_heap HR0.out) bb_)); rintro e w71 ⟨v179, rfl, ho0, hb⟩; refine ⟨_, rfl, ?_⟩; have HO180 := Aside0.mk (Kd.V_lower (Kd.V_mono (ok' := fun k_ => True) ho0 (fun k_ hk_ => trivial)) (below_size bb_)); replace HB := bs_ hb; (try clear hb); (try clear hb2); (try clear hk); (try clear hi); (try clear ho0)) | ((with_reducible refine gate_dst (N := 6) rfl ?_); refine bx_ 6 #[.int .i64 0, .slice none 0 0] 40 ?_; intro gb182 hg w72 hbox hb; have BK182 := Aside0.mk (hbox); have GW182 := gw_ hg; have GE182 := gw_ hg; replace HO180 := Aside0.mk (Kd.V_below (Kd.V_elderB (by (with_reducible repeat (first | apply Kd.V_alloc | apply Kd.V_drewN | apply Kd.V_drew)); exact HO180.out) gb182 (Nat.le_of_eq hg.symm)) hb); replace HB := bs_ hb; clear hb hbox hg; obtain ⟨hcz73_0, hcz73_1, hfz73_0, hfz73_1⟩ := b2_ BK182; obtain ⟨Ao74, co74, eo74⟩ := Kd.V_slice HO180.out; subst eo74))
         have n0_ : Aside0 (Kd.V k74 74 ((w72.setCell ⟨gb182, 0, none⟩ (.int .i64 t177)).setCell ⟨gb182, 1, none⟩ (.slice Ao74 t178.length co74)) w.heap.size (fun k_ => k_ ≠ gb182) (.slice Ao74 t178.length co74) t178) := ⟨by (with_reducible repeat (first | apply Kd.V_alloc | apply Kd.V_drewN | apply Kd.V_drew)); exact Kd.V_mono (Kd.V_far (p := ⟨gb182, 1, none⟩) (Kd.V_far (p := ⟨gb182, 0, none⟩) (Kd.V_mono HO180.out (fun k_ hk => (⟨hk, hk.2⟩ : _ ∧ k_ ≠ gb182))) (fun _ hk => hk.2) (.int .i64 t177)) (fun _ hk => hk.2) (.slice Ao74 t178.length co74)) (fun _ hk => hk.1.2)⟩
         have n1_ : Aside0 (((w72.setCell ⟨gb182, 0, none⟩ (.int .i64 t177)).setCell ⟨gb182, 1, none⟩ (.slice Ao74 t178.length co74)).heap[gb182]? = some (.cells #[.int .i64 t177, .slice Ao74 t178.length co74] 40 (0, 0))) := ⟨(bp2_ (bkx_ BK182.out))⟩
         have n2_ : Aside0 (Below w.heap.size w ((w72.setCell ⟨gb182, 0, none⟩ (.int .i64 t177)).setCell ⟨gb182, 1, none⟩ (.slice Ao74 t178.length co74))) := ⟨bb_⟩
         (try clear HO180)
         (try clear BK182)
         (try clear HB)
         generalize ((w72.setCell ⟨gb182, 0, none⟩ (.int .i64 t177)).setCell ⟨gb182, 1, none⟩ (.slice Ao74 t178.length co74)) = w75 at n0_ n1_ n2_ ⊢
         have HO180 := n0_
         have BK182 := n1_
         have HB := n2_
         clear n0_ n1_ n2_
         replace HO180 := Aside0.mk (Kd.V_drew HO180.out)
         replace BK182 := Aside0.mk (blk_drew BK182.out)
         replace HB := Aside0.mk (below_drew1 HB.out)
         have p183 : 0 ≤ (x5_1 : Int) := od_
         have q183 : x5_1 < (l1.length : Int) := od_
         obtain ⟨ad183, A183_2, c183_2, e183, hx183_0, hx183_1, hx183_2, hl183_2, hi183_2⟩ := at_T91 HR1.out x5_1 p183 q183
         have hw183_2 := hx183_2
         have hw183_1 := hx183_1
         have hw183_0 := hx183_0
         obtain rfl : ad176 = ad183 := (by injection e183)
         replace hx183_0 := hb_ HB hx183_0
         replace hx183_1 := hb_ HB hx183_1
         replace hx183_2 := hb_ HB hx183_2
         have HR183_2 := Aside0.mk hi183_2
         have HC183_2 := Aside0.mk hl183_2
         clear hi183_2 hl183_2
         replace p183 := eq_true p183
         replace q183 := eq_true q183
         have p184 : 0 ≤ (x5_1 : Int) := od_
         have q184 : x5_1 < (l1.length : Int) := od_
         obtain ⟨ad184, A184_2, c184_2, e184, hx184_0, hx184_1, hx184_2, hl184_2, hi184_2⟩ := at_T91 HR1.out x5_1 p184 q184
         have hw184_2 := hx184_2
         have hw184_1 := hx184_1
         have hw184_0 := hx184_0
         obtain rfl : ad176 = ad184 := (by injection e184)
         replace hx184_0 := hb_ HB hx184_0
         replace hx184_1 := hb_ HB hx184_1
         replace hx184_2 := hb_ HB hx184_2
         have HR184_2 := Aside0.mk hi184_2
         have HC184_2 := Aside0.mk hl184_2
         clear hi184_2 hl184_2
         replace p184 := eq_true p184
         replace q184 := eq_true q184
         have ea_ := Option.some.inj (hx183_2.symm.trans hx184_2)
         injection ea_ with ea_ en_ ec_
         subst ea_
         subst ec_
         clear en_
         refine start_ (n := 51) (S := fun w' => w'.cell? ⟨gb182, 0, none⟩ = some (.int .i64 t177) ∧ w'.cell? ⟨gb182, 1, none⟩ = some (.slice Ao74 t178.length co74) ∧ w'.cell? (ad176.add ((x5_1).toNat * 3)) = some (.string ((rd_T91 l1 x5_1).f0)) ∧ w'.cell? ⟨(ad176.add ((x5_1).toNat * 3)).block, (ad176.add ((x5_1).toNat * 3)).off + 1, none⟩ = some (.int .i64 ((rd_T91 l1 x5_1).f1.f0)) ∧ w'.cell? ⟨(ad176.add ((x5_1).toNat * 3)).block, (ad176.add ((x5_1).toNat * 3)).off + 2, none⟩ = some (.slice A183_2 ((rd_T91 l1 x5_1).f1.f1).length c183_2) ∧ w'.cell? (ad176.add ((x5_1).toNat * 3)) = some (.string ((rd_T91 l1 x5_1).f0)) ∧ w'.cell? ⟨(ad176.add ((x5_1).toNat * 3)).block, (ad176.add ((x5_1).toNat * 3)).off + 1, none⟩ = some (.int .i64 ((rd_T91 l1 x5_1).f1.f0)) ∧ w'.cell? ⟨(ad176.add ((x5_1).toNat * 3)).block, (ad176.add ((x5_1).toNat * 3)).off + 2, none⟩ = some (.slice A183_2 ((rd_T91 l1 x5_1).f1.f1).length c183_2)) (ds := []) (tf 0 51) (by kernel_rfl) rfl rfl ⟨bc_ BK182 0, bc_ BK182 1, (hb_ HB hw183_0), (hb_ HB hw183_1), (hb_ HB hw183_2), (hb_ HB hw184_0), (hb_ HB hw184_1), (hb_ HB hw184_2)⟩ (fun hHeld => ?_); refine with_tabW spec_ChangeOk.tab7 spec_ChangeOk.bits7 (fun HT_ HW_ => ?_)
         generalize w75.drew = w76 at HO180 BK182 HB HR183_2 HR184_2 hx183_0 hx183_1 hx183_2 hx184_0 hx184_1 hx184_2 hHeld ⊢
         iterate 4 (refine pl_ ?_)
         refine plx_ 5 #[true, true, true, true, false, true, false, false, false, false, false, false, false, false, false, false, false, false, false, false, false, false, false, false, false, false, false, false, false, false, false, false, false, false, false, false, false, false, false, false, false, false, false, false, false, false, false, false, false, false, false] ?_
         refine plx_ 6 #[true, true, true, true, false, true, true, false, false, false, false, false, false, false, false, false, false, false, false, false, false, false, false, false, false, false, false, false, false, false, false, false, false, false, false, false, false, false, false, false, false, false, false, false, false, false, false, false, false, false, false] ?_
         refine plx_ 7 #[true, true, true, true, false, true, true, true, false, false, false, false, false, false, false, false, false, false, false, false, false, false, false, false, false, false, false, false, false, false, false, false, false, false, false, false, false, false, false, false, false, false, false, false, false, false, false, false, false, false, false] ?_
         refine plx_ 8 #[true, true, true, true, false, true, true, true, true, false, false, false, false, false, false, false, false, false, false, false, false, false, false, false, false, false, false, false, false, false, false, false, false, false, false, false, false, false, false, false, false, false, false, false, false, false, false, false, false, false, false] ?_
         refine plx_ 9 #[true, true, true, true, false, true, true, true, true, true, false, false, false, false, false, false, false, false, false, false, false, false, false, false, false, false, false, false, false, false, false, false, false, false, false, false, false, false, false, false, false, false, false, false, false, false, false, false, false, false, false] ?_
         refine tlx_ 4 (tf 10 41) ?_
         refine tl_ ?_
         iterate 7 (refine pl_ ?_)
         refine tl_ ?_
         refine one_ (i := 19) (N := some 46) (tf 20 31) rfl rfl (one_of HT_.out (by kernel_rfl)) (by decide) (fun K hK => ?_)
         refine gs_ Try.func56 #[.agg #[.int .i64 ((rd_T91 l1 x5_1).f1.f0), .slice A183_2 ((rd_T91 l1 x5_1).f1.f1).length c183_2]] ?_
         with_reducible refine (spec_BagOk.calls k1 ((rd_T91 l1 x5_1).f1.f0) _ _ ((rd_T91 l1 x5_1).f1.f1) false _ ?side1 ?side2 A11.out).mono ?_
         (case side1 => exact ck_ (Kd.C_below HR184_2.out HB.out))
         (case side2 => exact HC184_2.out)
         rintro e w77 ⟨rfl, hb⟩
         refine ⟨_, rfl, ?_⟩
         replace HO180 := Aside0.mk (Kd.V_below (by (with_reducible repeat (first | apply Kd.V_alloc | apply Kd.V_drewN | apply Kd.V_drew)); exact HO180.out) hb)
         replace BK182 := bkb_ BK182 hb
         replace HB := bs_ hb
         (try clear hb)
         (try clear hb2)
         (try clear hk)
         (try clear hi)
         refine hK.out _ _ ⟨bc_ BK182 0, bc_ BK182 1, (have h_ := hb_ HB hw183_0; h_), (have h_ := hb_ HB hw183_1; h_), (have h_ := hb_ HB hw183_2; h_), (have h_ := hb_ HB hw184_0; h_), (have h_ := hb_ HB hw184_1; h_), (have h_ := hb_ HB hw184_2; h_)⟩ (fun hHeld => ?_)
         clear hK K
         refine nm_ ?_
         refine plx_ 20 (tf 21 30) ?_
         iterate 2 (refine pl_ ?_)
         iterate 16 (refine pd_ ?_)
         iterate 2 (refine pl_ ?_)
         iterate 9 (refine pd_ ?_)
         refine pl_ ?_
         refine done_ (done_of HT_.out (by kernel_rfl)) ?_
         try go_wp2
         go_ret
         exact ⟨er_, bb_⟩
       ·rw [if_neg c10] at H
        have c10b0 : (t177 == ((rd_T91 l1 x5_1).f1.f0)) = false := beq_eq_false_iff_ne.mpr c10
        have c10b1 : (t177 != ((rd_T91 l1 x5_1).f1.f0)) = true := bne_iff_ne.mpr c10
        obtain rfl := Option.some.inj H
        have p176 : 0 ≤ (x5_1 : Int) := od_
        have q176 : x5_1 < (l1.length : Int) := od_
        obtain ⟨ad176, A176_2, c176_2, e176, hx176_0, hx176_1, hx176_2, hl176_2, hi176_2⟩ := at_T91 HR1.out x5_1 p176 q176
        cases e176
        replace hx176_0 := hb_ HB hx176_0
        replace hx176_1 := hb_ HB hx176_1
        replace hx176_2 := hb_ HB hx176_2
        have HR176_2 := Aside0.mk hi176_2
        have HC176_2 := Aside0.mk hl176_2
        clear hi176_2 hl176_2
        replace p176 := eq_true p176
        replace q176 := eq_true q176
        try go_wp2_with (first | ((with_reducible refine gate_callee (f := 55) rfl ?_); refine gsL_ (some 24) Try.func55 #[.slice A0 l0.length c0, .string ((rd_T91 l1 x5_1).f0)] ?_; (with_reducible refine (spec_l04Rel.calls k1 (fun k_ => k_ < w.heap.size) _ _ l0 ((rd_T91 l1 x5_1).f0) t177 t178 true _ ?side1 A8.out).mono ?_); (case side1 => exact Kd.V_mk HC0.out (Kd.F_below (Kd.C_F k91_heap HR0.out) bb_)); rintro e w78 ⟨v179, rfl, ho0, hb⟩; refine ⟨_, rfl, ?_⟩; have HO180 := Aside0.mk (Kd.V_lower (Kd.V_mono (ok' := fun k_ => True) ho0 (fun k_ hk_ => trivial)) (below_size bb_)); replace HB := bs_ hb; (try clear hb); (try clear hb2); (try clear hk); (try clear hi); (try clear ho0)) | ((with_reducible refine gate_dst (N := 6) rfl ?_); refine bx_ 6 #[.int .i64 0, .slice none 0 0] 40 ?_; intro gb182 hg w79 hbox hb; have BK182 := Aside0.mk (hbox); have GW182 := gw_ hg; have GE182 := gw_ hg; replace HO180 := Aside0.mk (Kd.V_below (Kd.V_elderB (by (with_reducible repeat (first | apply Kd.V_alloc | apply Kd.V_drewN | apply Kd.V_drew)); exact HO180.out) gb182 (Nat.le_of_eq hg.symm)) hb); replace HB := bs_ hb; clear hb hbox hg; obtain ⟨hcz80_0, hcz80_1, hfz80_0, hfz80_1⟩ := b2_ BK182; obtain ⟨Ao81, co81, eo81⟩ := Kd.V_slice HO180.out; subst eo81))
        have n0_ : Aside0 (Kd.V k74 74 ((w79.setCell ⟨gb182, 0, none⟩ (.int .i64 t177)).setCell ⟨gb182, 1, none⟩ (.slice Ao81 t178.length co81)) w.heap.size (fun k_ => k_ ≠ gb182) (.slice Ao81 t178.length co81) t178) := ⟨by (with_reducible repeat (first | apply Kd.V_alloc | apply Kd.V_drewN | apply Kd.V_drew)); exact Kd.V_mono (Kd.V_far (p := ⟨gb182, 1, none⟩) (Kd.V_far (p := ⟨gb182, 0, none⟩) (Kd.V_mono HO180.out (fun k_ hk => (⟨hk, hk.2⟩ : _ ∧ k_ ≠ gb182))) (fun _ hk => hk.2) (.int .i64 t177)) (fun _ hk => hk.2) (.slice Ao81 t178.length co81)) (fun _ hk => hk.1.2)⟩
        have n1_ : Aside0 (((w79.setCell ⟨gb182, 0, none⟩ (.int .i64 t177)).setCell ⟨gb182, 1, none⟩ (.slice Ao81 t178.length co81)).heap[gb182]? = some (.cells #[.int .i64 t177, .slice Ao81 t178.length co81] 40 (0, 0))) := ⟨(bp2_ (bkx_ BK182.out))⟩
        have n2_ : Aside0 (Below w.heap.size w ((w79.setCell ⟨gb182, 0, none⟩ (.int .i64 t177)).setCell ⟨gb182, 1, none⟩ (.slice Ao81 t178.length co81))) := ⟨bb_⟩
        (try clear HO180)
        (try clear BK182)
        (try clear HB)
        generalize ((w79.setCell ⟨gb182, 0, none⟩ (.int .i64 t177)).setCell ⟨gb182, 1, none⟩ (.slice Ao81 t178.length co81)) = w82 at n0_ n1_ n2_ ⊢
        have HO180 := n0_
        have BK182 := n1_
        have HB := n2_
        clear n0_ n1_ n2_
        replace HO180 := Aside0.mk (Kd.V_drew HO180.out)
        replace BK182 := Aside0.mk (blk_drew BK182.out)
        replace HB := Aside0.mk (below_drew1 HB.out)
        have p183 : 0 ≤ (x5_1 : Int) := od_
        have q183 : x5_1 < (l1.length : Int) := od_
        obtain ⟨ad183, A183_2, c183_2, e183, hx183_0, hx183_1, hx183_2, hl183_2, hi183_2⟩ := at_T91 HR1.out x5_1 p183 q183
        have hw183_2 := hx183_2
        have hw183_1 := hx183_1
        have hw183_0 := hx183_0
        obtain rfl : ad176 = ad183 := (by injection e183)
        replace hx183_0 := hb_ HB hx183_0
        replace hx183_1 := hb_ HB hx183_1
        replace hx183_2 := hb_ HB hx183_2
        have HR183_2 := Aside0.mk hi183_2
        have HC183_2 := Aside0.mk hl183_2
        clear hi183_2 hl183_2
        replace p183 := eq_true p183
        replace q183 := eq_true q183
        refine start_ (n := 51) (S := fun w' => w'.cell? ⟨gb182, 0, none⟩ = some (.int .i64 t177) ∧ w'.cell? ⟨gb182, 1, none⟩ = some (.slice Ao81 t178.length co81) ∧ w'.cell? (ad176.add ((x5_1).toNat * 3)) = some (.string ((rd_T91 l1 x5_1).f0)) ∧ w'.cell? ⟨(ad176.add ((x5_1).toNat * 3)).block, (ad176.add ((x5_1).toNat * 3)).off + 1, none⟩ = some (.int .i64 ((rd_T91 l1 x5_1).f1.f0)) ∧ w'.cell? ⟨(ad176.add ((x5_1).toNat * 3)).block, (ad176.add ((x5_1).toNat * 3)).off + 2, none⟩ = some (.slice A183_2 ((rd_T91 l1 x5_1).f1.f1).length c183_2)) (ds := []) (tf 0 51) (by kernel_rfl) rfl rfl ⟨bc_ BK182 0, bc_ BK182 1, (hb_ HB hw183_0), (hb_ HB hw183_1), (hb_ HB hw183_2)⟩ (fun hHeld => ?_); refine with_tabW spec_ChangeOk.tab7 spec_ChangeOk.bits7 (fun HT_ HW_ => ?_)
        generalize w82.drew = w83 at HO180 BK182 HB HR183_2 hx183_0 hx183_1 hx183_2 hHeld ⊢
        iterate 4 (refine pl_ ?_)
        refine plx_ 5 #[true, true, true, true, false, true, false, false, false, false, false, false, false, false, false, false, false, false, false, false, false, false, false, false, false, false, false, false, false, false, false, false, false, false, false, false, false, false, false, false, false, false, false, false, false, false, false, false, false, false, false] ?_
        refine plx_ 6 #[true, true, true, true, false, true, true, false, false, false, false, false, false, false, false, false, false, false, false, false, false, false, false, false, false, false, false, false, false, false, false, false, false, false, false, false, false, false, false, false, false, false, false, false, false, false, false, false, false, false, false] ?_
        refine plx_ 7 #[true, true, true, true, false, true, true, true, false, false, false, false, false, false, false, false, false, false, false, false, false, false, false, false, false, false, false, false, false, false, false, false, false, false, false, false, false, false, false, false, false, false, false, false, false, false, false, false, false, false, false] ?_
        refine plx_ 8 #[true, true, true, true, false, true, true, true, true, false, false, false, false, false, false, false, false, false, false, false, false, false, false, false, false, false, false, false, false, false, false, false, false, false, false, false, false, false, false, false, false, false, false, false, false, false, false, false, false, false, false] ?_
        refine plx_ 9 #[true, true, true, true, false, true, true, true, true, true, false, false, false, false, false, false, false, false, false, false, false, false, false, false, false, false, false, false, false, false, false, false, false, false, false, false, false, false, false, false, false, false, false, false, false, false, false, false, false, false, false] ?_
        refine tlx_ 4 (tf 10 41) ?_
        refine tl_ ?_
        iterate 3 (refine pl_ ?_)
        iterate 7 (refine pd_ ?_)
        iterate 2 (refine pl_ ?_)
        iterate 16 (refine pd_ ?_)
        iterate 2 (refine pl_ ?_)
        iterate 9 (refine pd_ ?_)
        refine pl_ ?_
        refine done_ (done_of HT_.out (by kernel_rfl)) ?_
        try go_wp2
        go_ret
        exact ⟨er_, bb_⟩
      ·replace c9 := Bool.eq_false_iff.mpr c9
       subst c9
       have H1 : (some false) = some r := by rw [if_neg (show ¬ (false = true) by decide)] at H; exact H
       clear H
       have H := H1
       clear H1
       obtain rfl := Option.some.inj H
       have p176 : 0 ≤ (x5_1 : Int) := od_
       have q176 : x5_1 < (l1.length : Int) := od_
       obtain ⟨ad176, A176_2, c176_2, e176, hx176_0, hx176_1, hx176_2, hl176_2, hi176_2⟩ := at_T91 HR1.out x5_1 p176 q176
       cases e176
       replace hx176_0 := hb_ HB hx176_0
       replace hx176_1 := hb_ HB hx176_1
       replace hx176_2 := hb_ HB hx176_2
       have HR176_2 := Aside0.mk hi176_2
       have HC176_2 := Aside0.mk hl176_2
       clear hi176_2 hl176_2
       replace p176 := eq_true p176
       replace q176 := eq_true q176
       try go_wp2_with (first | ((with_reducible refine gate_callee (f := 55) rfl ?_); refine gsL_ (some 24) Try.func55 #[.slice A0 l0.length c0, .string ((rd_T91 l1 x5_1).f0)] ?_; (with_reducible refine (spec_l04Rel.calls k1 (fun k_ => k_ < w.heap.size) _ _ l0 ((rd_T91 l1 x5_1).f0) t177 t178 false _ ?side1 A8.out).mono ?_); (case side1 => exact Kd.V_mk HC0.out (Kd.F_below (Kd.C_F k91_heap HR0.out) bb_)); rintro e w84 ⟨v179, rfl, ho0, hb⟩; refine ⟨_, rfl, ?_⟩; have HO180 := Aside0.mk (Kd.V_lower (Kd.V_mono (ok' := fun k_ => True) ho0 (fun k_ hk_ => trivial)) (below_size bb_)); replace HB := bs_ hb; (try clear hb); (try clear hb2); (try clear hk); (try clear hi); (try clear ho0)) | ((with_reducible refine gate_dst (N := 6) rfl ?_); refine bx_ 6 #[.int .i64 0, .slice none 0 0] 40 ?_; intro gb182 hg w85 hbox hb; have BK182 := Aside0.mk (hbox); have GW182 := gw_ hg; have GE182 := gw_ hg; replace HO180 := Aside0.mk (Kd.V_below (Kd.V_elderB (by (with_reducible repeat (first | apply Kd.V_alloc | apply Kd.V_drewN | apply Kd.V_drew)); exact HO180.out) gb182 (Nat.le_of_eq hg.symm)) hb); replace HB := bs_ hb; clear hb hbox hg; obtain ⟨hcz86_0, hcz86_1, hfz86_0, hfz86_1⟩ := b2_ BK182; obtain ⟨Ao87, co87, eo87⟩ := Kd.V_slice HO180.out; subst eo87))
       have n0_ : Aside0 (Kd.V k74 74 ((w85.setCell ⟨gb182, 0, none⟩ (.int .i64 t177)).setCell ⟨gb182, 1, none⟩ (.slice Ao87 t178.length co87)) w.heap.size (fun k_ => k_ ≠ gb182) (.slice Ao87 t178.length co87) t178) := ⟨by (with_reducible repeat (first | apply Kd.V_alloc | apply Kd.V_drewN | apply Kd.V_drew)); exact Kd.V_mono (Kd.V_far (p := ⟨gb182, 1, none⟩) (Kd.V_far (p := ⟨gb182, 0, none⟩) (Kd.V_mono HO180.out (fun k_ hk => (⟨hk, hk.2⟩ : _ ∧ k_ ≠ gb182))) (fun _ hk => hk.2) (.int .i64 t177)) (fun _ hk => hk.2) (.slice Ao87 t178.length co87)) (fun _ hk => hk.1.2)⟩
       have n1_ : Aside0 (((w85.setCell ⟨gb182, 0, none⟩ (.int .i64 t177)).setCell ⟨gb182, 1, none⟩ (.slice Ao87 t178.length co87)).heap[gb182]? = some (.cells #[.int .i64 t177, .slice Ao87 t178.length co87] 40 (0, 0))) := ⟨(bp2_ (bkx_ BK182.out))⟩
       have n2_ : Aside0 (Below w.heap.size w ((w85.setCell ⟨gb182, 0, none⟩ (.int .i64 t177)).setCell ⟨gb182, 1, none⟩ (.slice Ao87 t178.length co87))) := ⟨bb_⟩
       (try clear HO180)
       (try clear BK182)
       (try clear HB)
       generalize ((w85.setCell ⟨gb182, 0, none⟩ (.int .i64 t177)).setCell ⟨gb182, 1, none⟩ (.slice Ao87 t178.length co87)) = w88 at n0_ n1_ n2_ ⊢
       have HO180 := n0_
       have BK182 := n1_
       have HB := n2_
       clear n0_ n1_ n2_
       replace HO180 := Aside0.mk (Kd.V_drew HO180.out)
       replace BK182 := Aside0.mk (blk_drew BK182.out)
       replace HB := Aside0.mk (below_drew1 HB.out)
       refine start_ (n := 51) (S := fun w' => True) (ds := []) (tf 0 51) (by kernel_rfl) rfl rfl trivial (fun hHeld => ?_); refine with_tabW spec_ChangeOk.tab7 spec_ChangeOk.bits7 (fun HT_ HW_ => ?_)
       generalize w88.drew = w89 at HO180 BK182 HB hHeld ⊢
       iterate 3 (refine pl_ ?_)
       iterate 9 (refine pd_ ?_)
       iterate 2 (refine pl_ ?_)
       iterate 7 (refine pd_ ?_)
       iterate 2 (refine pl_ ?_)
       iterate 16 (refine pd_ ?_)
       iterate 2 (refine pl_ ?_)
       iterate 9 (refine pd_ ?_)
       refine pl_ ?_
       refine done_ (done_of HT_.out (by kernel_rfl)) ?_
       try go_wp2
       go_ret
       exact ⟨er_, bb_⟩
     ·rw [if_neg c7] at H
      exact absurd H (by simp)
    ·rw [if_neg c6] at H
     have c6b0 : decide (x5_1 < (l1.length : Int)) = false := decide_eq_false c6
     clear c6
     obtain rfl := Option.some.inj H
     go_wp2
     go_ret
     exact ⟨er_, bb_⟩
 ·replace c4 := Bool.eq_false_iff.mpr c4
  subst c4
  have H1 : (some false) = some r := by rw [if_neg (show ¬ (false = true) by decide)] at H; exact H
  clear H
  have H := H1
  clear H1
  obtain rfl := Option.some.inj H
  go_enter Try.func25, Try.ntmps25
  go_wp2_with (first | ((with_reducible refine gate_callee (f := 54) rfl ?_); refine gsL_ (some 9) Try.func54 #[.slice A0 l0.length c0] ?_; (with_reducible refine (spec_DbOk.calls k _ _ l0 false _ ?side1 ?side2 A3.out).mono ?_); (case side1 => exact ck_ HR0.out); (case side2 => exact HC0.out); rintro e w90 ⟨rfl, hb⟩; refine ⟨_, rfl, ?_⟩; replace HB := bs_ hb; (try clear hb); (try clear hb2); (try clear hk); (try clear hi)))
  go_ret
  exact ⟨er_, bb_⟩

end Go.Proofs.Ytapgfamppnhnmaa.PFnExactChangeOk
