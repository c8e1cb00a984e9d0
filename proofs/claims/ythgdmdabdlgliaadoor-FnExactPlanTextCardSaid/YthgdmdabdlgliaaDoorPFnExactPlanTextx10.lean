-- WRITTEN BY xprint.py, a program of this session over the kit's printer: by nobody's hand
-- PRESSED
import Derived.Test.YthgdmdabdlgliaaDoorPress
import Derived.Test.YthgdmdabdlgliaaDoorPFnExactPlanTextx0
import Derived.Test.YthgdmdabdlgliaaDoorPFnExactPlanTextx8
import Derived.Test.YthgdmdabdlgliaaDoorPFnExactPlanTextx9
namespace Go.Proofs.YthgdmdabdlgliaaDoor.PFnExactPlanText
open Go.RowKit Go.Proofs.YthgdmdabdlgliaaDoorW.PrintWords Go.Proofs.YthgdmdabdlgliaaDoorW.PrintLast Go.Proofs.YthgdmdabdlgliaaDoorW.PrintMore
set_option linter.unusedVariables false
set_option linter.unusedSimpArgs false

/-! ### impl_planText: function 84 -/
mutual
def impl_planText.l0 : Nat → Int → List ByteArray → List (S70) → Int → Int → Int → ByteArray → Int → Int → Int → Int → ByteArray → ByteArray → List (S32) → List (S32) → Int → List (S70) → Option (ByteArray)
 | 0, _, _, _, _, _, _, _, _, _, _, _, _, _, _, _, _, _ => none
 | k + 1, x1, x5, x12, x13, x14, x275000, x275001, x275002, x275003, x275004, x275005, x275006, x275007, x275008, x275009, x275010, x275011 => if x14 < x13 then (if 0 ≤ x14 then (if x14 < (x12.length : Int) then ((impl_planText.f k ((rd_T70 x12 x14).f0) ((rd_T70 x12 x14).f1) ((rd_T70 x12 x14).f2.f0) ((rd_T70 x12 x14).f2.f1) ((rd_T70 x12 x14).f2.f2.f0) ((rd_T70 x12 x14).f2.f2.f1) ((rd_T70 x12 x14).f2.f2.f2) ((rd_T70 x12 x14).f2.f3) ((rd_T70 x12 x14).f2.f4) ((rd_T70 x12 x14).f3) ((rd_T70 x12 x14).f4) ((rd_T70 x12 x14).f5) (wrap64 (x1 + 1))).bind fun t277 => (if x5.length < 8796093022208 then (impl_planText.l0 k x1 (x5 ++ [t277]) x12 x13 (wrap64 (x14 + 1)) x275000 x275001 x275002 x275003 x275004 x275005 x275006 x275007 x275008 x275009 x275010 x275011) else (none))) else (none)) else (none)) else ((strings_Join.f x5 (⟨#[44, 32]⟩ : ByteArray)).bind fun t281 => (if x275000 = 0 then (some x275001) else (if x275000 = 1 then ((impl_ExpText.f k x275002 x275003 x275004 x275005 x275006 x275007 x275008).bind fun t282 => (if 7 + t282.size ≤ 9223372036854775807 then (if ((⟨#[102, 105, 108, 116, 101, 114, 40]⟩ : ByteArray) ++ t282).size + 2 ≤ 9223372036854775807 then (if (((⟨#[102, 105, 108, 116, 101, 114, 40]⟩ : ByteArray) ++ t282) ++ (⟨#[44, 32]⟩ : ByteArray)).size + t281.size ≤ 9223372036854775807 then (if ((((⟨#[102, 105, 108, 116, 101, 114, 40]⟩ : ByteArray) ++ t282) ++ (⟨#[44, 32]⟩ : ByteArray)) ++ t281).size + 1 ≤ 9223372036854775807 then (some (((((⟨#[102, 105, 108, 116, 101, 114, 40]⟩ : ByteArray) ++ t282) ++ (⟨#[44, 32]⟩ : ByteArray)) ++ t281) ++ (⟨#[41]⟩ : ByteArray))) else (none)) else (none)) else (none)) else (none))) else (if x275000 = 2 then ((impl_expTexts.f k x275009).bind fun t283 => (if 8 + t283.size ≤ 9223372036854775807 then (if ((⟨#[112, 114, 111, 106, 101, 99, 116, 40]⟩ : ByteArray) ++ t283).size + 2 ≤ 9223372036854775807 then (if (((⟨#[112, 114, 111, 106, 101, 99, 116, 40]⟩ : ByteArray) ++ t283) ++ (⟨#[44, 32]⟩ : ByteArray)).size + t281.size ≤ 9223372036854775807 then (if ((((⟨#[112, 114, 111, 106, 101, 99, 116, 40]⟩ : ByteArray) ++ t283) ++ (⟨#[44, 32]⟩ : ByteArray)) ++ t281).size + 1 ≤ 9223372036854775807 then (some (((((⟨#[112, 114, 111, 106, 101, 99, 116, 40]⟩ : ByteArray) ++ t283) ++ (⟨#[44, 32]⟩ : ByteArray)) ++ t281) ++ (⟨#[41]⟩ : ByteArray))) else (none)) else (none)) else (none)) else (none))) else (if x275000 = 3 then ((impl_ExpText.f k x275002 x275003 x275004 x275005 x275006 x275007 x275008).bind fun t284 => (if 5 + t284.size ≤ 9223372036854775807 then (if ((⟨#[106, 111, 105, 110, 40]⟩ : ByteArray) ++ t284).size + 2 ≤ 9223372036854775807 then (if (((⟨#[106, 111, 105, 110, 40]⟩ : ByteArray) ++ t284) ++ (⟨#[44, 32]⟩ : ByteArray)).size + t281.size ≤ 9223372036854775807 then (if ((((⟨#[106, 111, 105, 110, 40]⟩ : ByteArray) ++ t284) ++ (⟨#[44, 32]⟩ : ByteArray)) ++ t281).size + 1 ≤ 9223372036854775807 then (some (((((⟨#[106, 111, 105, 110, 40]⟩ : ByteArray) ++ t284) ++ (⟨#[44, 32]⟩ : ByteArray)) ++ t281) ++ (⟨#[41]⟩ : ByteArray))) else (none)) else (none)) else (none)) else (none))) else (if x275000 = 4 then (if 6 + t281.size ≤ 9223372036854775807 then (if ((⟨#[117, 110, 105, 111, 110, 40]⟩ : ByteArray) ++ t281).size + 1 ≤ 9223372036854775807 then (some (((⟨#[117, 110, 105, 111, 110, 40]⟩ : ByteArray) ++ t281) ++ (⟨#[41]⟩ : ByteArray))) else (none)) else (none)) else (if x275000 = 5 then (if 9 + t281.size ≤ 9223372036854775807 then (if ((⟨#[100, 105, 115, 116, 105, 110, 99, 116, 40]⟩ : ByteArray) ++ t281).size + 1 ≤ 9223372036854775807 then (some (((⟨#[100, 105, 115, 116, 105, 110, 99, 116, 40]⟩ : ByteArray) ++ t281) ++ (⟨#[41]⟩ : ByteArray))) else (none)) else (none)) else (if x275000 = 6 then ((impl_DecText.f x275010).bind fun t285 => (if 6 + t285.size ≤ 9223372036854775807 then (if ((⟨#[103, 114, 111, 117, 112, 40]⟩ : ByteArray) ++ t285).size + 2 ≤ 9223372036854775807 then ((impl_expTexts.f k x275009).bind fun t286 => (if (((⟨#[103, 114, 111, 117, 112, 40]⟩ : ByteArray) ++ t285) ++ (⟨#[44, 32]⟩ : ByteArray)).size + t286.size ≤ 9223372036854775807 then (if ((((⟨#[103, 114, 111, 117, 112, 40]⟩ : ByteArray) ++ t285) ++ (⟨#[44, 32]⟩ : ByteArray)) ++ t286).size + 2 ≤ 9223372036854775807 then (if (((((⟨#[103, 114, 111, 117, 112, 40]⟩ : ByteArray) ++ t285) ++ (⟨#[44, 32]⟩ : ByteArray)) ++ t286) ++ (⟨#[44, 32]⟩ : ByteArray)).size + t281.size ≤ 9223372036854775807 then (if ((((((⟨#[103, 114, 111, 117, 112, 40]⟩ : ByteArray) ++ t285) ++ (⟨#[44, 32]⟩ : ByteArray)) ++ t286) ++ (⟨#[44, 32]⟩ : ByteArray)) ++ t281).size + 1 ≤ 9223372036854775807 then (some (((((((⟨#[103, 114, 111, 117, 112, 40]⟩ : ByteArray) ++ t285) ++ (⟨#[44, 32]⟩ : ByteArray)) ++ t286) ++ (⟨#[44, 32]⟩ : ByteArray)) ++ t281) ++ (⟨#[41]⟩ : ByteArray))) else (none)) else (none)) else (none)) else (none))) else (none)) else (none))) else (some (⟨#[]⟩ : ByteArray))))))))))
def impl_planText.f : Nat → Int → ByteArray → Int → Int → Int → Int → ByteArray → ByteArray → List (S32) → List (S32) → Int → List (S70) → Int → Option (ByteArray)
 | 0, _, _, _, _, _, _, _, _, _, _, _, _, _ => none
 | k + 1, a0_0, a0_1, a0_2, a0_3, a0_4, a0_5, a0_6, a0_7, l0_8, l0_9, a0_10, l0_11, a1 => if a1 > 20 then (some (⟨#[]⟩ : ByteArray)) else (impl_planText.l0 k a1 ([] : List ByteArray) l0_11 (l0_11.length : Int) 0 a0_0 a0_1 a0_2 a0_3 a0_4 a0_5 a0_6 a0_7 l0_8 l0_9 a0_10 l0_11)
end
def impl_planText.T24 : Bool × List (List Nat × List Nat) := (true, [([], []), ([0], [0]), ([1], [1]), ([2], [2]), ([3], [3]), ([], []), ([5], [5]), ([6, 2], [6]), ([4, 7], [4, 7]), ([8], [8]), ([], []), ([9, 10], [9, 10]), ([11], [11]), ([12, 7, 0, 1, 2, 3, 4, 5, 6, 7, 8, 9, 10, 11, 12], [12])])
def impl_planText.B24 : List Nat := [0, 1, 3, 7, 15, 0, 32, 103, 255, 511, 0, 2047, 4095, 8191]
theorem impl_planText.tab24 : rtab .any (opsOf Tryd.f84 24) = impl_planText.T24 := by kernel_rfl
theorem impl_planText.bits24 : waitsOk impl_planText.T24.2 impl_planText.B24 = true := by kernel_rfl
set_option maxHeartbeats 8000000 in
set_option maxRecDepth 100000 in
theorem impl_planText.calls (k : Nat) : ∀ (a0_0 : Int) (a0_1 : ByteArray) (a0_2 : Int) (a0_3 : Int) (a0_4 : Int) (a0_5 : Int) (a0_6 : ByteArray) (a0_7 : ByteArray) (A0_8 : Option Addr) (c0_8 : Nat) (l0_8 : List (S32)) (A0_9 : Option Addr) (c0_9 : Nat) (l0_9 : List (S32)) (a0_10 : Int) (A0_11 : Option Addr) (c0_11 : Nat) (l0_11 : List (S70)) (a1 : Int) (r : ByteArray) (w : World) (hr0_8 : Kd.C k32 w A0_8 l0_8.length l0_8) (hc0_8 : l0_8.length ≤ c0_8) (hr0_9 : Kd.C k32 w A0_9 l0_9.length l0_9) (hc0_9 : l0_9.length ≤ c0_9) (hr0_11 : Kd.C k70 w A0_11 l0_11.length l0_11) (hc0_11 : l0_11.length ≤ c0_11) (h : impl_planText.f k a0_0 a0_1 a0_2 a0_3 a0_4 a0_5 a0_6 a0_7 l0_8 l0_9 a0_10 l0_11 a1 = some r) (hM : MaxLenIn w := by first | assumption | exact MaxLenIn.drewN (by assumption) _ | exact MaxLenIn.later (by assumption) (by assumption) | exact MaxLenIn.drewN (MaxLenIn.later (by assumption) (by assumption)) _ | exact MaxLenIn.later (by assumption) ⟨by repeat (first | exact Aside0.out (by assumption) | apply below_alloc | apply pw_below_drewN | apply below_drew1 | refine below_set ?_ (Aside0.out (by assumption)))⟩),
  Calls Tryd.prog 84 #[.agg #[.int .i64 a0_0, .string a0_1, .int .i64 a0_2, .int .i64 a0_3, .int .i64 a0_4, .int .i64 a0_5, .string a0_6, .string a0_7, .slice A0_8 l0_8.length c0_8, .slice A0_9 l0_9.length c0_9, .int .i64 a0_10, .slice A0_11 l0_11.length c0_11], .int .i64 a1] w fun e w' => e = .returned (.string r) ∧ Below w.heap.size w w' := by
 induction k using Nat.strongRecOn with
 | _ k ih =>
 intro a0_0 a0_1 a0_2 a0_3 a0_4 a0_5 a0_6 a0_7 A0_8 c0_8 l0_8 A0_9 c0_9 l0_9 a0_10 A0_11 c0_11 l0_11 a1 r w hr0_8 hc0_8 hr0_9 hc0_9 hr0_11 hc0_11 h hM
 cases k with
 | zero => exact absurd h (by simp [impl_planText.f])
 | succ k =>
 simp only [impl_planText.f] at h
 have hu70 := Tryd.underlying70
 have hu32 := Tryd.underlying32
 have HR0_8 := Aside0.mk hr0_8
 have HC0_8 := Aside0.mk hc0_8
 clear hr0_8 hc0_8
 have HR0_9 := Aside0.mk hr0_9
 have HC0_9 := Aside0.mk hc0_9
 clear hr0_9 hc0_9
 have HR0_11 := Aside0.mk hr0_11
 have HC0_11 := Aside0.mk hc0_11
 clear hr0_11 hc0_11
 have HB := Aside0.mk (Below.refl w.heap.size w)
 have H : (if a1 > 20 then (some (⟨#[]⟩ : ByteArray)) else (impl_planText.l0 k a1 ([] : List ByteArray) l0_11 (l0_11.length : Int) 0 a0_0 a0_1 a0_2 a0_3 a0_4 a0_5 a0_6 a0_7 l0_8 l0_9 a0_10 l0_11)) = some r := h
 clear h
 by_cases c3 : a1 > 20
 ·rw [if_pos c3] at H
  have c3b0 : decide (20 < a1) = true := decide_eq_true c3
  clear c3
  obtain rfl := Option.some.inj H
  go_enter Tryd.func84, Tryd.ntmps84
  go_wp2_with (first | ((with_reducible refine gate_dst (N := 2) rfl ?_); refine bx_ 2 #[.int .i64 a0_0, .string a0_1, .int .i64 a0_2, .int .i64 a0_3, .int .i64 a0_4, .int .i64 a0_5, .string a0_6, .string a0_7, .slice A0_8 l0_8.length c0_8, .slice A0_9 l0_9.length c0_9, .int .i64 a0_10, .slice A0_11 l0_11.length c0_11] 70 ?_; intro gb274 hg w4 hbox hb; have BK274 := Aside0.mk (hbox); have GW274 := gw_ hg; have GE274 := gw_ hg; replace HB := bs_ hb; clear hb hbox hg))
  go_ret
  exact ⟨er_, bb_⟩
 ·rw [if_neg c3] at H
  have c3b0 : decide (20 < a1) = false := decide_eq_false c3
  clear c3
  have H' := Aside0.mk H
  clear H
  go_enter Tryd.func84, Tryd.ntmps84
  go_wp2_with (first | ((with_reducible refine gate_dst (N := 2) rfl ?_); refine bx_ 2 #[.int .i64 a0_0, .string a0_1, .int .i64 a0_2, .int .i64 a0_3, .int .i64 a0_4, .int .i64 a0_5, .string a0_6, .string a0_7, .slice A0_8 l0_8.length c0_8, .slice A0_9 l0_9.length c0_9, .int .i64 a0_10, .slice A0_11 l0_11.length c0_11] 70 ?_; intro gb274 hg w5 hbox hb; have BK274 := Aside0.mk (hbox); have GW274 := gw_ hg; have GE274 := gw_ hg; replace HB := bs_ hb; clear hb hbox hg; obtain ⟨hcz6_0, hcz6_1, hcz6_2, hcz6_3, hcz6_4, hcz6_5, hcz6_6, hcz6_7, hcz6_8, hcz6_9, hcz6_10, hcz6_11, hfz6_0, hfz6_1, hfz6_2, hfz6_3, hfz6_4, hfz6_5, hfz6_6, hfz6_7, hfz6_8, hfz6_9, hfz6_10, hfz6_11⟩ := b12_ BK274))
  go_loopg [5, 14] k (fun kq v5 v14 w' => ∃ (x5_1 : List ByteArray) (x14_1 : Int), v14 = .int .i64 x14_1 ∧ Aside0 (impl_planText.l0 kq a1 x5_1 l0_11 (l0_11.length : Int) x14_1 a0_0 a0_1 a0_2 a0_3 a0_4 a0_5 a0_6 a0_7 l0_8 l0_9 a0_10 l0_11 = some r) ∧ Aside0 (kq ≤ k) ∧ Aside0 (Kd.R Kd.string 9 w' w.heap.size (fun _ => True) v5 x5_1) ∧ Aside0 (w'.heap[gb274]? = some (.cells #[.int .i64 a0_0, .string a0_1, .int .i64 a0_2, .int .i64 a0_3, .int .i64 a0_4, .int .i64 a0_5, .string a0_6, .string a0_7, (.slice A0_8 l0_8.length c0_8), (.slice A0_9 l0_9.length c0_9), .int .i64 a0_10, (.slice A0_11 l0_11.length c0_11)] 70 (0, 0))) ∧ Aside0 (Below w.heap.size w w'))
  case atStart => exact ⟨(([] : List ByteArray)), (0), rs_, H', ⟨Nat.le_refl _⟩, ⟨by first | exact Kd.R_nil _ _ _ _ _ | exact Kd.N_nil _ _ _ _ _ | exact Kd.V_nil _ _ _ _ _ | exact Kd.Q_nil _ _ _ _ _ | exact Kd.S_nil _ _ _ _ _⟩, ⟨bkx_ BK274.out⟩, ⟨bb_⟩⟩
  case round =>
   clear H'
   try clear p2
   try clear c3
   try clear c3b0
   try clear hcz6_0
   try clear hcz6_1
   try clear hcz6_10
   try clear hcz6_11
   try clear hcz6_2
   try clear hcz6_3
   try clear hcz6_4
   try clear hcz6_5
   try clear hcz6_6
   try clear hcz6_7
   try clear hcz6_8
   try clear hcz6_9
   try clear hfz6_0
   try clear hfz6_1
   try clear hfz6_10
   try clear hfz6_11
   try clear hfz6_2
   try clear hfz6_3
   try clear hfz6_4
   try clear hfz6_5
   try clear hfz6_6
   try clear hfz6_7
   try clear hfz6_8
   try clear hfz6_9
   obtain ⟨x5_1, x14_1, rfl, HA, HK1, HO_5, BK274, HB⟩ := hrel
   cases gk with
   | zero => exact absurd HA.out (by simp [impl_planText.l0])
   | succ k1 =>
    have H := HA.out
    clear HA
    simp only [impl_planText.l0] at H
    by_cases c7 : x14_1 < (l0_11.length : Int)
    ·rw [if_pos c7] at H
     have c7b0 : decide (x14_1 < (l0_11.length : Int)) = true := decide_eq_true c7
     clear c7
     by_cases c8 : 0 ≤ x14_1
     ·rw [if_pos c8] at H
      have c8b0 : decide (0 ≤ x14_1) = true := decide_eq_true c8
      clear c8
      by_cases c9 : x14_1 < (l0_11.length : Int)
      ·rw [if_pos c9] at H
       have c9b0 : decide (x14_1 < (l0_11.length : Int)) = true := decide_eq_true c9
       clear c9
       replace H := Option.bind_eq_some_iff.mp H
       obtain ⟨t277, A100, H⟩ := H
       replace H : (if x5_1.length < 8796093022208 then (impl_planText.l0 k1 a1 (x5_1 ++ [t277]) l0_11 (l0_11.length : Int) (wrap64 (x14_1 + 1)) a0_0 a0_1 a0_2 a0_3 a0_4 a0_5 a0_6 a0_7 l0_8 l0_9 a0_10 l0_11) else (none)) = some r := H
       have A10 := Aside0.mk A100
       clear A100
       by_cases c11 : x5_1.length < 8796093022208
       ·rw [if_pos c11] at H
        have LMc11 := Aside0.mk c11
        clear c11
        obtain ⟨y278, hy278⟩ : ∃ y_ : List ByteArray, y_ = (x5_1 ++ [t277]) := ⟨_, rfl⟩
        replace H : (impl_planText.l0 k1 a1 y278 l0_11 (l0_11.length : Int) (wrap64 (x14_1 + 1)) a0_0 a0_1 a0_2 a0_3 a0_4 a0_5 a0_6 a0_7 l0_8 l0_9 a0_10 l0_11) = some r := by first | (rw [hy278]; with_reducible exact H) | (have H2_ := (Option.bind_some _ _).symm.trans H; rw [hy278]; with_reducible exact H2_) | (have H2_ := (Option.bind_some _ _).symm.trans H; with_reducible exact H2_) | with_reducible exact H | (rw [hy278]; exact H) | exact H
        have Ny278 := Aside0.mk hy278
        clear hy278
        have H' := Aside0.mk H
        clear H
        have p275 : 0 ≤ (x14_1 : Int) := of_decide_eq_true (by first | (with_reducible assumption) | assumption)
        have q275 : x14_1 < (l0_11.length : Int) := of_decide_eq_true (by first | (with_reducible assumption) | assumption)
        obtain ⟨ad275, A275_8, c275_8, A275_9, c275_9, A275_11, c275_11, e275, hx275_0, hx275_1, hx275_2, hx275_3, hx275_4, hx275_5, hx275_6, hx275_7, hx275_8, hx275_9, hx275_10, hx275_11, hl275_8, hi275_8, hl275_9, hi275_9, hl275_11, hi275_11⟩ := at_T70 HR0_11.out x14_1 p275 q275
        cases e275
        replace hx275_0 := hb_ HB hx275_0
        replace hx275_1 := hb_ HB hx275_1
        replace hx275_2 := hb_ HB hx275_2
        replace hx275_3 := hb_ HB hx275_3
        replace hx275_4 := hb_ HB hx275_4
        replace hx275_5 := hb_ HB hx275_5
        replace hx275_6 := hb_ HB hx275_6
        replace hx275_7 := hb_ HB hx275_7
        replace hx275_8 := hb_ HB hx275_8
        replace hx275_9 := hb_ HB hx275_9
        replace hx275_10 := hb_ HB hx275_10
        replace hx275_11 := hb_ HB hx275_11
        have HR275_8 := Aside0.mk hi275_8
        have HC275_8 := Aside0.mk hl275_8
        clear hi275_8 hl275_8
        have HR275_9 := Aside0.mk hi275_9
        have HC275_9 := Aside0.mk hl275_9
        clear hi275_9 hl275_9
        have HR275_11 := Aside0.mk hi275_11
        have HC275_11 := Aside0.mk hl275_11
        clear hi275_11 hl275_11
        replace p275 := eq_true p275
        replace q275 := eq_true q275
        go_wp2_with (first | ((with_reducible refine gate_dst (N := 7) rfl ?_); refine bx_ 7 #[.int .i64 0, .string (⟨#[]⟩ : ByteArray), .int .i64 0, .int .i64 0, .int .i64 0, .int .i64 0, .string (⟨#[]⟩ : ByteArray), .string (⟨#[]⟩ : ByteArray), .slice none 0 0, .slice none 0 0, .int .i64 0, .slice none 0 0] 70 ?_; intro gb276 hg w12 hbox hb; have BK276 := Aside0.mk (hbox); have GW276 := gw_ hg; have GE276 := gw_ hg; have NB274_276 := nl_ hg BK274; have NB276_274 := ng_ hg BK274; replace HO_5 := Aside0.mk (Kd.R_below (rk_ HO_5.out) hb); replace BK274 := bkb_ BK274 hb; replace HB := bs_ hb; clear hb hbox hg; have hnb13 := NB276_274.out; have hnc13 := NB274_276.out; obtain ⟨hcz14_0, hcz14_1, hcz14_2, hcz14_3, hcz14_4, hcz14_5, hcz14_6, hcz14_7, hcz14_8, hcz14_9, hcz14_10, hcz14_11, hfz14_0, hfz14_1, hfz14_2, hfz14_3, hfz14_4, hfz14_5, hfz14_6, hfz14_7, hfz14_8, hfz14_9, hfz14_10, hfz14_11⟩ := b12_ BK276) | ((with_reducible refine gate_callee (f := 84) rfl ?_); refine gsL_ (some 22) Tryd.func84 #[.agg #[.int .i64 ((rd_T70 l0_11 x14_1).f0), .string ((rd_T70 l0_11 x14_1).f1), .int .i64 ((rd_T70 l0_11 x14_1).f2.f0), .int .i64 ((rd_T70 l0_11 x14_1).f2.f1), .int .i64 ((rd_T70 l0_11 x14_1).f2.f2.f0), .int .i64 ((rd_T70 l0_11 x14_1).f2.f2.f1), .string ((rd_T70 l0_11 x14_1).f2.f2.f2), .string ((rd_T70 l0_11 x14_1).f2.f3), .slice A275_8 ((rd_T70 l0_11 x14_1).f2.f4).length c275_8, .slice A275_9 ((rd_T70 l0_11 x14_1).f3).length c275_9, .int .i64 ((rd_T70 l0_11 x14_1).f4), .slice A275_11 ((rd_T70 l0_11 x14_1).f5).length c275_11], .int .i64 (wrap64 (a1 + 1))] ?_; (with_reducible refine (ih k1 (by have := HK1.out; omega) ((rd_T70 l0_11 x14_1).f0) ((rd_T70 l0_11 x14_1).f1) ((rd_T70 l0_11 x14_1).f2.f0) ((rd_T70 l0_11 x14_1).f2.f1) ((rd_T70 l0_11 x14_1).f2.f2.f0) ((rd_T70 l0_11 x14_1).f2.f2.f1) ((rd_T70 l0_11 x14_1).f2.f2.f2) ((rd_T70 l0_11 x14_1).f2.f3) _ _ ((rd_T70 l0_11 x14_1).f2.f4) _ _ ((rd_T70 l0_11 x14_1).f3) ((rd_T70 l0_11 x14_1).f4) _ _ ((rd_T70 l0_11 x14_1).f5) (wrap64 (a1 + 1)) t277 _ ?side1 ?side2 ?side3 ?side4 ?side5 ?side6 A10.out).mono ?_); (case side1 => exact Kd.C_below HR275_8.out bb_); (case side2 => exact HC275_8.out); (case side3 => exact Kd.C_below HR275_9.out bb_); (case side4 => exact HC275_9.out); (case side5 => exact Kd.C_below HR275_11.out bb_); (case side6 => exact HC275_11.out); rintro e w15 ⟨rfl, hb⟩; refine ⟨_, rfl, ?_⟩; have n0_ := Aside0.mk (Kd.R_below (rk_ (Kd.R_mono (Kd.R_far (p := ⟨gb276, 11, none⟩) (Kd.R_far (p := ⟨gb276, 10, none⟩) (Kd.R_far (p := ⟨gb276, 9, none⟩) (Kd.R_far (p := ⟨gb276, 8, none⟩) (Kd.R_far (p := ⟨gb276, 7, none⟩) (Kd.R_far (p := ⟨gb276, 6, none⟩) (Kd.R_far (p := ⟨gb276, 5, none⟩) (Kd.R_far (p := ⟨gb276, 4, none⟩) (Kd.R_far (p := ⟨gb276, 3, none⟩) (Kd.R_far (p := ⟨gb276, 2, none⟩) (Kd.R_far (p := ⟨gb276, 1, none⟩) (Kd.R_far (p := ⟨gb276, 0, none⟩) (Kd.R_types HO_5.out BK276.out (by decide)) (fun _ hk => hk.2) (.int .i64 ((rd_T70 l0_11 x14_1).f0))) (fun _ hk => hk.2) (.string ((rd_T70 l0_11 x14_1).f1))) (fun _ hk => hk.2) (.int .i64 ((rd_T70 l0_11 x14_1).f2.f0))) (fun _ hk => hk.2) (.int .i64 ((rd_T70 l0_11 x14_1).f2.f1))) (fun _ hk => hk.2) (.int .i64 ((rd_T70 l0_11 x14_1).f2.f2.f0))) (fun _ hk => hk.2) (.int .i64 ((rd_T70 l0_11 x14_1).f2.f2.f1))) (fun _ hk => hk.2) (.string ((rd_T70 l0_11 x14_1).f2.f2.f2))) (fun _ hk => hk.2) (.string ((rd_T70 l0_11 x14_1).f2.f3))) (fun _ hk => hk.2) (.slice A275_8 ((rd_T70 l0_11 x14_1).f2.f4).length c275_8)) (fun _ hk => hk.2) (.slice A275_9 ((rd_T70 l0_11 x14_1).f3).length c275_9)) (fun _ hk => hk.2) (.int .i64 ((rd_T70 l0_11 x14_1).f4))) (fun _ hk => hk.2) (.slice A275_11 ((rd_T70 l0_11 x14_1).f5).length c275_11)) (fun _ h_ => h_.1))) hb); have n1_ := Aside0.mk (blk_below (g := gb274) (o := .cells #[.int .i64 a0_0, .string a0_1, .int .i64 a0_2, .int .i64 a0_3, .int .i64 a0_4, .int .i64 a0_5, .string a0_6, .string a0_7, .slice A0_8 l0_8.length c0_8, .slice A0_9 l0_9.length c0_9, .int .i64 a0_10, .slice (some ad275) l0_11.length c0_11] 70 (0, 0)) (by (with_reducible repeat (first | refine blk_drewN ?_ _ | refine blk_drew ?_ | refine blk_alloc ?_ _)); refine blk_far ?_ NB274_276.out _; (with_reducible repeat (first | refine blk_drewN ?_ _ | refine blk_drew ?_ | refine blk_alloc ?_ _)); refine blk_far ?_ NB274_276.out _; (with_reducible repeat (first | refine blk_drewN ?_ _ | refine blk_drew ?_ | refine blk_alloc ?_ _)); refine blk_far ?_ NB274_276.out _; (with_reducible repeat (first | refine blk_drewN ?_ _ | refine blk_drew ?_ | refine blk_alloc ?_ _)); refine blk_far ?_ NB274_276.out _; (with_reducible repeat (first | refine blk_drewN ?_ _ | refine blk_drew ?_ | refine blk_alloc ?_ _)); refine blk_far ?_ NB274_276.out _; (with_reducible repeat (first | refine blk_drewN ?_ _ | refine blk_drew ?_ | refine blk_alloc ?_ _)); refine blk_far ?_ NB274_276.out _; (with_reducible repeat (first | refine blk_drewN ?_ _ | refine blk_drew ?_ | refine blk_alloc ?_ _)); refine blk_far ?_ NB274_276.out _; (with_reducible repeat (first | refine blk_drewN ?_ _ | refine blk_drew ?_ | refine blk_alloc ?_ _)); refine blk_far ?_ NB274_276.out _; (with_reducible repeat (first | refine blk_drewN ?_ _ | refine blk_drew ?_ | refine blk_alloc ?_ _)); refine blk_far ?_ NB274_276.out _; (with_reducible repeat (first | refine blk_drewN ?_ _ | refine blk_drew ?_ | refine blk_alloc ?_ _)); refine blk_far ?_ NB274_276.out _; (with_reducible repeat (first | refine blk_drewN ?_ _ | refine blk_drew ?_ | refine blk_alloc ?_ _)); refine blk_far ?_ NB274_276.out _; (with_reducible repeat (first | refine blk_drewN ?_ _ | refine blk_drew ?_ | refine blk_alloc ?_ _)); refine blk_far ?_ NB274_276.out _; (with_reducible repeat (first | refine blk_drewN ?_ _ | refine blk_drew ?_ | refine blk_alloc ?_ _)); exact BK274.out) hb); have n2_ := Aside0.mk (blk_below (g := gb276) (o := .cells #[.int .i64 ((rd_T70 l0_11 x14_1).f0), .string ((rd_T70 l0_11 x14_1).f1), .int .i64 ((rd_T70 l0_11 x14_1).f2.f0), .int .i64 ((rd_T70 l0_11 x14_1).f2.f1), .int .i64 ((rd_T70 l0_11 x14_1).f2.f2.f0), .int .i64 ((rd_T70 l0_11 x14_1).f2.f2.f1), .string ((rd_T70 l0_11 x14_1).f2.f2.f2), .string ((rd_T70 l0_11 x14_1).f2.f3), .slice A275_8 ((rd_T70 l0_11 x14_1).f2.f4).length c275_8, .slice A275_9 ((rd_T70 l0_11 x14_1).f3).length c275_9, .int .i64 ((rd_T70 l0_11 x14_1).f4), .slice A275_11 ((rd_T70 l0_11 x14_1).f5).length c275_11] 70 (0, 0)) (by (with_reducible repeat (first | refine blk_drewN ?_ _ | refine blk_drew ?_ | refine blk_alloc ?_ _)); refine blk_put (cs := #[.int .i64 ((rd_T70 l0_11 x14_1).f0), .string ((rd_T70 l0_11 x14_1).f1), .int .i64 ((rd_T70 l0_11 x14_1).f2.f0), .int .i64 ((rd_T70 l0_11 x14_1).f2.f1), .int .i64 ((rd_T70 l0_11 x14_1).f2.f2.f0), .int .i64 ((rd_T70 l0_11 x14_1).f2.f2.f1), .string ((rd_T70 l0_11 x14_1).f2.f2.f2), .string ((rd_T70 l0_11 x14_1).f2.f3), .slice A275_8 ((rd_T70 l0_11 x14_1).f2.f4).length c275_8, .slice A275_9 ((rd_T70 l0_11 x14_1).f3).length c275_9, .int .i64 ((rd_T70 l0_11 x14_1).f4), .slice none 0 0]) ?_ 11 _ rfl; (with_reducible repeat (first | refine blk_drewN ?_ _ | refine blk_drew ?_ | refine blk_alloc ?_ _)); refine blk_put (cs := #[.int .i64 ((rd_T70 l0_11 x14_1).f0), .string ((rd_T70 l0_11 x14_1).f1), .int .i64 ((rd_T70 l0_11 x14_1).f2.f0), .int .i64 ((rd_T70 l0_11 x14_1).f2.f1), .int .i64 ((rd_T70 l0_11 x14_1).f2.f2.f0), .int .i64 ((rd_T70 l0_11 x14_1).f2.f2.f1), .string ((rd_T70 l0_11 x14_1).f2.f2.f2), .string ((rd_T70 l0_11 x14_1).f2.f3), .slice A275_8 ((rd_T70 l0_11 x14_1).f2.f4).length c275_8, .slice A275_9 ((rd_T70 l0_11 x14_1).f3).length c275_9, .int .i64 0, .slice none 0 0]) ?_ 10 _ rfl; (with_reducible repeat (first | refine blk_drewN ?_ _ | refine blk_drew ?_ | refine blk_alloc ?_ _)); refine blk_put (cs := #[.int .i64 ((rd_T70 l0_11 x14_1).f0), .string ((rd_T70 l0_11 x14_1).f1), .int .i64 ((rd_T70 l0_11 x14_1).f2.f0), .int .i64 ((rd_T70 l0_11 x14_1).f2.f1), .int .i64 ((rd_T70 l0_11 x14_1).f2.f2.f0), .int .i64 ((rd_T70 l0_11 x14_1).f2.f2.f1), .string ((rd_T70 l0_11 x14_1).f2.f2.f2), .string ((rd_T70 l0_11 x14_1).f2.f3), .slice A275_8 ((rd_T70 l0_11 x14_1).f2.f4).length c275_8, .slice none 0 0, .int .i64 0, .slice none 0 0]) ?_ 9 _ rfl; (with_reducible repeat (first | refine blk_drewN ?_ _ | refine blk_drew ?_ | refine blk_alloc ?_ _)); refine blk_put (cs := #[.int .i64 ((rd_T70 l0_11 x14_1).f0), .string ((rd_T70 l0_11 x14_1).f1), .int .i64 ((rd_T70 l0_11 x14_1).f2.f0), .int .i64 ((rd_T70 l0_11 x14_1).f2.f1), .int .i64 ((rd_T70 l0_11 x14_1).f2.f2.f0), .int .i64 ((rd_T70 l0_11 x14_1).f2.f2.f1), .string ((rd_T70 l0_11 x14_1).f2.f2.f2), .string ((rd_T70 l0_11 x14_1).f2.f3), .slice none 0 0, .slice none 0 0, .int .i64 0, .slice none 0 0]) ?_ 8 _ rfl; (with_reducible repeat (first | refine blk_drewN ?_ _ | refine blk_drew ?_ | refine blk_alloc ?_ _)); refine blk_put (cs := #[.int .i64 ((rd_T70 l0_11 x14_1).f0), .string ((rd_T70 l0_11 x14_1).f1), .int .i64 ((rd_T70 l0_11 x14_1).f2.f0), .int .i64 ((rd_T70 l0_11 x14_1).f2.f1), .int .i64 ((rd_T70 l0_11 x14_1).f2.f2.f0), .int .i64 ((rd_T70 l0_11 x14_1).f2.f2.f1), .string ((rd_T70 l0_11 x14_1).f2.f2.f2), .string (⟨#[]⟩ : ByteArray), .slice none 0 0, .slice none 0 0, .int .i64 0, .slice none 0 0]) ?_ 7 _ rfl; (with_reducible repeat (first | refine blk_drewN ?_ _ | refine blk_drew ?_ | refine blk_alloc ?_ _)); refine blk_put (cs := #[.int .i64 ((rd_T70 l0_11 x14_1).f0), .string ((rd_T70 l0_11 x14_1).f1), .int .i64 ((rd_T70 l0_11 x14_1).f2.f0), .int .i64 ((rd_T70 l0_11 x14_1).f2.f1), .int .i64 ((rd_T70 l0_11 x14_1).f2.f2.f0), .int .i64 ((rd_T70 l0_11 x14_1).f2.f2.f1), .string (⟨#[]⟩ : ByteArray), .string (⟨#[]⟩ : ByteArray), .slice none 0 0, .slice none 0 0, .int .i64 0, .slice none 0 0]) ?_ 6 _ rfl; (with_reducible repeat (first | refine blk_drewN ?_ _ | refine blk_drew ?_ | refine blk_alloc ?_ _)); refine blk_put (cs := #[.int .i64 ((rd_T70 l0_11 x14_1).f0), .string ((rd_T70 l0_11 x14_1).f1), .int .i64 ((rd_T70 l0_11 x14_1).f2.f0), .int .i64 ((rd_T70 l0_11 x14_1).f2.f1), .int .i64 ((rd_T70 l0_11 x14_1).f2.f2.f0), .int .i64 0, .string (⟨#[]⟩ : ByteArray), .string (⟨#[]⟩ : ByteArray), .slice none 0 0, .slice none 0 0, .int .i64 0, .slice none 0 0]) ?_ 5 _ rfl; (with_reducible repeat (first | refine blk_drewN ?_ _ | refine blk_drew ?_ | refine blk_alloc ?_ _)); refine blk_put (cs := #[.int .i64 ((rd_T70 l0_11 x14_1).f0), .string ((rd_T70 l0_11 x14_1).f1), .int .i64 ((rd_T70 l0_11 x14_1).f2.f0), .int .i64 ((rd_T70 l0_11 x14_1).f2.f1), .int .i64 0, .int .i64 0, .string (⟨#[]⟩ : ByteArray), .string (⟨#[]⟩ : ByteArray), .slice none 0 0, .slice none 0 0, .int .i64 0, .slice none 0 0]) ?_ 4 _ rfl; (with_reducible repeat (first | refine blk_drewN ?_ _ | refine blk_drew ?_ | refine blk_alloc ?_ _)); refine blk_put (cs := #[.int .i64 ((rd_T70 l0_11 x14_1).f0), .string ((rd_T70 l0_11 x14_1).f1), .int .i64 ((rd_T70 l0_11 x14_1).f2.f0), .int .i64 0, .int .i64 0, .int .i64 0, .string (⟨#[]⟩ : ByteArray), .string (⟨#[]⟩ : ByteArray), .slice none 0 0, .slice none 0 0, .int .i64 0, .slice none 0 0]) ?_ 3 _ rfl; (with_reducible repeat (first | refine blk_drewN ?_ _ | refine blk_drew ?_ | refine blk_alloc ?_ _)); refine blk_put (cs := #[.int .i64 ((rd_T70 l0_11 x14_1).f0), .string ((rd_T70 l0_11 x14_1).f1), .int .i64 0, .int .i64 0, .int .i64 0, .int .i64 0, .string (⟨#[]⟩ : ByteArray), .string (⟨#[]⟩ : ByteArray), .slice none 0 0, .slice none 0 0, .int .i64 0, .slice none 0 0]) ?_ 2 _ rfl; (with_reducible repeat (first | refine blk_drewN ?_ _ | refine blk_drew ?_ | refine blk_alloc ?_ _)); refine blk_put (cs := #[.int .i64 ((rd_T70 l0_11 x14_1).f0), .string (⟨#[]⟩ : ByteArray), .int .i64 0, .int .i64 0, .int .i64 0, .int .i64 0, .string (⟨#[]⟩ : ByteArray), .string (⟨#[]⟩ : ByteArray), .slice none 0 0, .slice none 0 0, .int .i64 0, .slice none 0 0]) ?_ 1 _ rfl; (with_reducible repeat (first | refine blk_drewN ?_ _ | refine blk_drew ?_ | refine blk_alloc ?_ _)); refine blk_put (cs := #[.int .i64 0, .string (⟨#[]⟩ : ByteArray), .int .i64 0, .int .i64 0, .int .i64 0, .int .i64 0, .string (⟨#[]⟩ : ByteArray), .string (⟨#[]⟩ : ByteArray), .slice none 0 0, .slice none 0 0, .int .i64 0, .slice none 0 0]) ?_ 0 _ rfl; (with_reducible repeat (first | refine blk_drewN ?_ _ | refine blk_drew ?_ | refine blk_alloc ?_ _)); exact BK276.out) hb); have n3_ := bs_ hb; clear HO_5; clear BK274; clear BK276; clear HB; have HO_5 := n0_; have BK274 := n1_; have BK276 := n2_; have HB := n3_; clear n0_ n1_ n2_ n3_; (try clear hb); (try clear hb2); (try clear hk); (try clear hi)) | ((with_reducible refine gate_builtin (b := .append) (xs := #[.tmp 18, .tmp 23]) rfl ?_); at_builtin; refine Kd.R_append Kd.string (w0 := w) w.heap.size rfl (.tmp 18) (.tmp 23) 99 9 (.string ⟨#[]⟩) 16 rfl Tryd.underlying99 info9 rfl (by decide) (by omega) u5 x5_1 t277 [.string t277] (fun _ => True) (fun _ => False) rfl rfl ?aP (fun _ hk => hk.elim) ?aF ?aO ?aB ?aS ?aL ?_; (case aP => exact rfl); (case aB => exact bb_); (case aF => exact (fun _ _ => trivial)); (case aO => exact (rk_ HO_5.out)); (case aS => exact (below_size bb_)); (case aL => have := LMc11.out; omega); intro v279 w16 ho hb hg hat; rw [← Ny278.out] at ho; have HO280 := Aside0.mk (ho); replace BK274 := Aside0.mk (blk_grown (g := gb274) (o := .cells #[.int .i64 a0_0, .string a0_1, .int .i64 a0_2, .int .i64 a0_3, .int .i64 a0_4, .int .i64 a0_5, .string a0_6, .string a0_7, .slice A0_8 l0_8.length c0_8, .slice A0_9 l0_9.length c0_9, .int .i64 a0_10, .slice (some ad275) l0_11.length c0_11] 70 (0, 0)) (bkx_ BK274.out) hg (Kd.R_ne HO_5.out BK274.out (by decide))); replace BK276 := Aside0.mk (blk_grown (g := gb276) (o := .cells #[.int .i64 ((rd_T70 l0_11 x14_1).f0), .string ((rd_T70 l0_11 x14_1).f1), .int .i64 ((rd_T70 l0_11 x14_1).f2.f0), .int .i64 ((rd_T70 l0_11 x14_1).f2.f1), .int .i64 ((rd_T70 l0_11 x14_1).f2.f2.f0), .int .i64 ((rd_T70 l0_11 x14_1).f2.f2.f1), .string ((rd_T70 l0_11 x14_1).f2.f2.f2), .string ((rd_T70 l0_11 x14_1).f2.f3), .slice A275_8 ((rd_T70 l0_11 x14_1).f2.f4).length c275_8, .slice A275_9 ((rd_T70 l0_11 x14_1).f3).length c275_9, .int .i64 ((rd_T70 l0_11 x14_1).f4), .slice A275_11 ((rd_T70 l0_11 x14_1).f5).length c275_11] 70 (0, 0)) (bkx_ BK276.out) hg (Kd.R_ne HO_5.out BK276.out (by decide))); replace HB := Aside0.mk (hb); clear HO_5; clear ho hb hg hat))
        go_roundg k1
        case measure => have := HK1.out; omega
        case rel => exact ⟨(y278), (wrap64 (x14_1 + 1)), rs_, H', ⟨by have := HK1.out; omega⟩, ⟨by (with_reducible repeat (first | apply Kd.R_alloc | apply Kd.R_drewN | apply Kd.R_drew)); exact HO280.out⟩, ⟨bkx_ BK274.out⟩, ⟨bb_⟩⟩
       ·rw [if_neg c11] at H
        exact absurd H (by simp)
      ·rw [if_neg c9] at H
       exact absurd H (by simp)
     ·rw [if_neg c8] at H
      exact absurd H (by simp)
    ·rw [if_neg c7] at H
     have c7b0 : decide (x14_1 < (l0_11.length : Int)) = false := decide_eq_false c7
     clear c7
     replace H := Option.bind_eq_some_iff.mp H
     obtain ⟨t281, A170, H⟩ := H
     replace H : (if a0_0 = 0 then (some a0_1) else (if a0_0 = 1 then ((impl_ExpText.f k1 a0_2 a0_3 a0_4 a0_5 a0_6 a0_7 l0_8).bind fun t282 => (if 7 + t282.size ≤ 9223372036854775807 then (if ((⟨#[102, 105, 108, 116, 101, 114, 40]⟩ : ByteArray) ++ t282).size + 2 ≤ 9223372036854775807 then (if (((⟨#[102, 105, 108, 116, 101, 114, 40]⟩ : ByteArray) ++ t282) ++ (⟨#[44, 32]⟩ : ByteArray)).size + t281.size ≤ 9223372036854775807 then (if ((((⟨#[102, 105, 108, 116, 101, 114, 40]⟩ : ByteArray) ++ t282) ++ (⟨#[44, 32]⟩ : ByteArray)) ++ t281).size + 1 ≤ 9223372036854775807 then (some (((((⟨#[102, 105, 108, 116, 101, 114, 40]⟩ : ByteArray) ++ t282) ++ (⟨#[44, 32]⟩ : ByteArray)) ++ t281) ++ (⟨#[41]⟩ : ByteArray))) else (none)) else (none)) else (none)) else (none))) else (if a0_0 = 2 then ((impl_expTexts.f k1 l0_9).bind fun t283 => (if 8 + t283.size ≤ 9223372036854775807 then (if ((⟨#[112, 114, 111, 106, 101, 99, 116, 40]⟩ : ByteArray) ++ t283).size + 2 ≤ 9223372036854775807 then (if (((⟨#[112, 114, 111, 106, 101, 99, 116, 40]⟩ : ByteArray) ++ t283) ++ (⟨#[44, 32]⟩ : ByteArray)).size + t281.size ≤ 9223372036854775807 then (if ((((⟨#[112, 114, 111, 106, 101, 99, 116, 40]⟩ : ByteArray) ++ t283) ++ (⟨#[44, 32]⟩ : ByteArray)) ++ t281).size + 1 ≤ 9223372036854775807 then (some (((((⟨#[112, 114, 111, 106, 101, 99, 116, 40]⟩ : ByteArray) ++ t283) ++ (⟨#[44, 32]⟩ : ByteArray)) ++ t281) ++ (⟨#[41]⟩ : ByteArray))) else (none)) else (none)) else (none)) else (none))) else (if a0_0 = 3 then ((impl_ExpText.f k1 a0_2 a0_3 a0_4 a0_5 a0_6 a0_7 l0_8).bind fun t284 => (if 5 + t284.size ≤ 9223372036854775807 then (if ((⟨#[106, 111, 105, 110, 40]⟩ : ByteArray) ++ t284).size + 2 ≤ 9223372036854775807 then (if (((⟨#[106, 111, 105, 110, 40]⟩ : ByteArray) ++ t284) ++ (⟨#[44, 32]⟩ : ByteArray)).size + t281.size ≤ 9223372036854775807 then (if ((((⟨#[106, 111, 105, 110, 40]⟩ : ByteArray) ++ t284) ++ (⟨#[44, 32]⟩ : ByteArray)) ++ t281).size + 1 ≤ 9223372036854775807 then (some (((((⟨#[106, 111, 105, 110, 40]⟩ : ByteArray) ++ t284) ++ (⟨#[44, 32]⟩ : ByteArray)) ++ t281) ++ (⟨#[41]⟩ : ByteArray))) else (none)) else (none)) else (none)) else (none))) else (if a0_0 = 4 then (if 6 + t281.size ≤ 9223372036854775807 then (if ((⟨#[117, 110, 105, 111, 110, 40]⟩ : ByteArray) ++ t281).size + 1 ≤ 9223372036854775807 then (some (((⟨#[117, 110, 105, 111, 110, 40]⟩ : ByteArray) ++ t281) ++ (⟨#[41]⟩ : ByteArray))) else (none)) else (none)) else (if a0_0 = 5 then (if 9 + t281.size ≤ 9223372036854775807 then (if ((⟨#[100, 105, 115, 116, 105, 110, 99, 116, 40]⟩ : ByteArray) ++ t281).size + 1 ≤ 9223372036854775807 then (some (((⟨#[100, 105, 115, 116, 105, 110, 99, 116, 40]⟩ : ByteArray) ++ t281) ++ (⟨#[41]⟩ : ByteArray))) else (none)) else (none)) else (if a0_0 = 6 then ((impl_DecText.f a0_10).bind fun t285 => (if 6 + t285.size ≤ 9223372036854775807 then (if ((⟨#[103, 114, 111, 117, 112, 40]⟩ : ByteArray) ++ t285).size + 2 ≤ 9223372036854775807 then ((impl_expTexts.f k1 l0_9).bind fun t286 => (if (((⟨#[103, 114, 111, 117, 112, 40]⟩ : ByteArray) ++ t285) ++ (⟨#[44, 32]⟩ : ByteArray)).size + t286.size ≤ 9223372036854775807 then (if ((((⟨#[103, 114, 111, 117, 112, 40]⟩ : ByteArray) ++ t285) ++ (⟨#[44, 32]⟩ : ByteArray)) ++ t286).size + 2 ≤ 9223372036854775807 then (if (((((⟨#[103, 114, 111, 117, 112, 40]⟩ : ByteArray) ++ t285) ++ (⟨#[44, 32]⟩ : ByteArray)) ++ t286) ++ (⟨#[44, 32]⟩ : ByteArray)).size + t281.size ≤ 9223372036854775807 then (if ((((((⟨#[103, 114, 111, 117, 112, 40]⟩ : ByteArray) ++ t285) ++ (⟨#[44, 32]⟩ : ByteArray)) ++ t286) ++ (⟨#[44, 32]⟩ : ByteArray)) ++ t281).size + 1 ≤ 9223372036854775807 then (some (((((((⟨#[103, 114, 111, 117, 112, 40]⟩ : ByteArray) ++ t285) ++ (⟨#[44, 32]⟩ : ByteArray)) ++ t286) ++ (⟨#[44, 32]⟩ : ByteArray)) ++ t281) ++ (⟨#[41]⟩ : ByteArray))) else (none)) else (none)) else (none)) else (none))) else (none)) else (none))) else (some (⟨#[]⟩ : ByteArray))))))))) = some r := H
     have A17 := Aside0.mk A170
     clear A170
     by_cases c18 : a0_0 = 0
     ·rw [if_pos c18] at H
      have c18b0 : (a0_0 == 0) = true := beq_iff_eq.mpr c18
      have c18b1 : (a0_0 != 0) = false := bne_eq_false_iff_eq.mpr c18
      clear c18
      obtain rfl := Option.some.inj H
      obtain ⟨Ao19, co19, eo19⟩ := Kd.R_slice HO_5.out
      subst eo19
      go_wp2_with (first | ((with_reducible refine gate_callee (f := 78) rfl ?_); refine gsL_ (some 27) Tryd.func78 #[.slice Ao19 x5_1.length co19, .string (⟨#[44, 32]⟩ : ByteArray)] ?_; (with_reducible refine (strings_Join.calls _ _ x5_1 (⟨#[44, 32]⟩ : ByteArray) t281 _ ?side1 ?side2 A17.out).mono ?_); (case side1 => exact ck_ (Kd.R_reads' HO_5.out).2.2); (case side2 => exact (Kd.R_reads' HO_5.out).2.1); rintro e w20 ⟨rfl, hb⟩; refine ⟨_, rfl, ?_⟩; replace HO_5 := Aside0.mk (Kd.R_below (rk_ HO_5.out) hb); replace BK274 := bkb_ BK274 hb; replace HB := bs_ hb; (try clear hb); (try clear hb2); (try clear hk); (try clear hi); obtain ⟨hcz21_0, hcz21_1, hcz21_2, hcz21_3, hcz21_4, hcz21_5, hcz21_6, hcz21_7, hcz21_8, hcz21_9, hcz21_10, hcz21_11, hfz21_0, hfz21_1, hfz21_2, hfz21_3, hfz21_4, hfz21_5, hfz21_6, hfz21_7, hfz21_8, hfz21_9, hfz21_10, hfz21_11⟩ := b12_ BK274))
      go_ret
      exact ⟨er_, bb_⟩
     ·rw [if_neg c18] at H
      have c18b0 : (a0_0 == 0) = false := beq_eq_false_iff_ne.mpr c18
      have c18b1 : (a0_0 != 0) = true := bne_iff_ne.mpr c18
      by_cases c22 : a0_0 = 1
      ·rw [if_pos c22] at H
       have c22b0 : (a0_0 == 1) = true := beq_iff_eq.mpr c22
       have c22b1 : (a0_0 != 1) = false := bne_eq_false_iff_eq.mpr c22
       clear c22
       replace H := Option.bind_eq_some_iff.mp H
       obtain ⟨t282, A230, H⟩ := H
       replace H : (if 7 + t282.size ≤ 9223372036854775807 then (if ((⟨#[102, 105, 108, 116, 101, 114, 40]⟩ : ByteArray) ++ t282).size + 2 ≤ 9223372036854775807 then (if (((⟨#[102, 105, 108, 116, 101, 114, 40]⟩ : ByteArray) ++ t282) ++ (⟨#[44, 32]⟩ : ByteArray)).size + t281.size ≤ 9223372036854775807 then (if ((((⟨#[102, 105, 108, 116, 101, 114, 40]⟩ : ByteArray) ++ t282) ++ (⟨#[44, 32]⟩ : ByteArray)) ++ t281).size + 1 ≤ 9223372036854775807 then (some (((((⟨#[102, 105, 108, 116, 101, 114, 40]⟩ : ByteArray) ++ t282) ++ (⟨#[44, 32]⟩ : ByteArray)) ++ t281) ++ (⟨#[41]⟩ : ByteArray))) else (none)) else (none)) else (none)) else (none)) = some r := H
       have A23 := Aside0.mk A230
       clear A230
       by_cases c24 : 7 + t282.size ≤ 9223372036854775807
       ·rw [if_pos c24] at H
        have c24b0 := eq_true c24
        have c24b1 : decide (7 + t282.size ≤ 9223372036854775807) = true := decide_eq_true c24
        try have c24b2 : (9223372036854775807 < 7 + t282.size) = False := eq_false (Nat.not_lt.2 c24)
        by_cases c25 : ((⟨#[102, 105, 108, 116, 101, 114, 40]⟩ : ByteArray) ++ t282).size + 2 ≤ 9223372036854775807
        ·rw [if_pos c25] at H
         have c25b0 := eq_true c25
         have c25b1 : decide (((⟨#[102, 105, 108, 116, 101, 114, 40]⟩ : ByteArray) ++ t282).size + 2 ≤ 9223372036854775807) = true := decide_eq_true c25
         try have c25b2 : (9223372036854775807 < ((⟨#[102, 105, 108, 116, 101, 114, 40]⟩ : ByteArray) ++ t282).size + 2) = False := eq_false (Nat.not_lt.2 c25)
         (try (have c25b0z := c25b0; simp only [ByteArray.size_append] at c25b0z))
         (try (have c25b1z := c25b1; simp only [ByteArray.size_append] at c25b1z))
         (try (have c25b2z := c25b2; simp only [ByteArray.size_append] at c25b2z))
         (try (have c25b2y : (9223372036854775807 < 7 + t282.size + 2) = False := by (apply eq_false; have hq_ := c25; simp only [ByteArray.size_append, ByteArray.size_extract] at hq_; have hl0_ : (⟨#[102, 105, 108, 116, 101, 114, 40]⟩ : ByteArray).size = 7 := rfl; omega)))
         by_cases c26 : (((⟨#[102, 105, 108, 116, 101, 114, 40]⟩ : ByteArray) ++ t282) ++ (⟨#[44, 32]⟩ : ByteArray)).size + t281.size ≤ 9223372036854775807
         ·rw [if_pos c26] at H
          have c26b0 := eq_true c26
          have c26b1 : decide ((((⟨#[102, 105, 108, 116, 101, 114, 40]⟩ : ByteArray) ++ t282) ++ (⟨#[44, 32]⟩ : ByteArray)).size + t281.size ≤ 9223372036854775807) = true := decide_eq_true c26
          try have c26b2 : (9223372036854775807 < (((⟨#[102, 105, 108, 116, 101, 114, 40]⟩ : ByteArray) ++ t282) ++ (⟨#[44, 32]⟩ : ByteArray)).size + t281.size) = False := eq_false (Nat.not_lt.2 c26)
          (try (have c26b0z := c26b0; simp only [ByteArray.size_append] at c26b0z))
          (try (have c26b1z := c26b1; simp only [ByteArray.size_append] at c26b1z))
          (try (have c26b2z := c26b2; simp only [ByteArray.size_append] at c26b2z))
          (try (have c26b2y : (9223372036854775807 < 7 + t282.size + 2 + t281.size) = False := by (apply eq_false; have hq_ := c26; simp only [ByteArray.size_append, ByteArray.size_extract] at hq_; have hl0_ : (⟨#[102, 105, 108, 116, 101, 114, 40]⟩ : ByteArray).size = 7 := rfl; have hl1_ : (⟨#[44, 32]⟩ : ByteArray).size = 2 := rfl; omega)))
          by_cases c27 : ((((⟨#[102, 105, 108, 116, 101, 114, 40]⟩ : ByteArray) ++ t282) ++ (⟨#[44, 32]⟩ : ByteArray)) ++ t281).size + 1 ≤ 9223372036854775807
          ·rw [if_pos c27] at H
           have c27b0 := eq_true c27
           have c27b1 : decide (((((⟨#[102, 105, 108, 116, 101, 114, 40]⟩ : ByteArray) ++ t282) ++ (⟨#[44, 32]⟩ : ByteArray)) ++ t281).size + 1 ≤ 9223372036854775807) = true := decide_eq_true c27
           try have c27b2 : (9223372036854775807 < ((((⟨#[102, 105, 108, 116, 101, 114, 40]⟩ : ByteArray) ++ t282) ++ (⟨#[44, 32]⟩ : ByteArray)) ++ t281).size + 1) = False := eq_false (Nat.not_lt.2 c27)
           (try (have c27b0z := c27b0; simp only [ByteArray.size_append] at c27b0z))
           (try (have c27b1z := c27b1; simp only [ByteArray.size_append] at c27b1z))
           (try (have c27b2z := c27b2; simp only [ByteArray.size_append] at c27b2z))
           (try (have c27b2y : (9223372036854775807 < 7 + t282.size + 2 + t281.size + 1) = False := by (apply eq_false; have hq_ := c27; simp only [ByteArray.size_append, ByteArray.size_extract] at hq_; have hl0_ : (⟨#[102, 105, 108, 116, 101, 114, 40]⟩ : ByteArray).size = 7 := rfl; have hl1_ : (⟨#[44, 32]⟩ : ByteArray).size = 2 := rfl; omega)))
           obtain rfl := Option.some.inj H
           obtain ⟨Ao28, co28, eo28⟩ := Kd.R_slice HO_5.out
           subst eo28
           go_wp2_with (first | ((with_reducible refine gate_callee (f := 78) rfl ?_); refine gsL_ (some 27) Tryd.func78 #[.slice Ao28 x5_1.length co28, .string (⟨#[44, 32]⟩ : ByteArray)] ?_; (with_reducible refine (strings_Join.calls _ _ x5_1 (⟨#[44, 32]⟩ : ByteArray) t281 _ ?side1 ?side2 A17.out).mono ?_); (case side1 => exact ck_ (Kd.R_reads' HO_5.out).2.2); (case side2 => exact (Kd.R_reads' HO_5.out).2.1); rintro e w29 ⟨rfl, hb⟩; refine ⟨_, rfl, ?_⟩; replace HO_5 := Aside0.mk (Kd.R_below (rk_ HO_5.out) hb); replace BK274 := bkb_ BK274 hb; replace HB := bs_ hb; (try clear hb); (try clear hb2); (try clear hk); (try clear hi); obtain ⟨hcz30_0, hcz30_1, hcz30_2, hcz30_3, hcz30_4, hcz30_5, hcz30_6, hcz30_7, hcz30_8, hcz30_9, hcz30_10, hcz30_11, hfz30_0, hfz30_1, hfz30_2, hfz30_3, hfz30_4, hfz30_5, hfz30_6, hfz30_7, hfz30_8, hfz30_9, hfz30_10, hfz30_11⟩ := b12_ BK274) | ((with_reducible refine gate_callee (f := 10) rfl ?_); refine gsL_ (some 38) Tryd.func10 #[.agg #[.int .i64 a0_2, .int .i64 a0_3, .int .i64 a0_4, .int .i64 a0_5, .string a0_6, .string a0_7, .slice A0_8 l0_8.length c0_8]] ?_; (with_reducible refine (impl_ExpText.calls k1 a0_2 a0_3 a0_4 a0_5 a0_6 a0_7 _ _ l0_8 t282 _ ?side1 ?side2 A23.out).mono ?_); (case side1 => exact ck_ (Kd.C_below HR0_8.out HB.out)); (case side2 => exact HC0_8.out); rintro e w31 ⟨rfl, hb⟩; refine ⟨_, rfl, ?_⟩; replace HO_5 := Aside0.mk (Kd.R_below (rk_ HO_5.out) hb); replace BK274 := bkb_ BK274 hb; replace HB := bs_ hb; (try clear hb); (try clear hb2); (try clear hk); (try clear hi)))
           go_ret
           exact ⟨er_, bb_⟩
          ·rw [if_neg c27] at H
           exact absurd H (by simp)
         ·rw [if_neg c26] at H
          exact absurd H (by simp)
        ·rw [if_neg c25] at H
         exact absurd H (by simp)
       ·rw [if_neg c24] at H
        exact absurd H (by simp)
      ·rw [if_neg c22] at H
       have c22b0 : (a0_0 == 1) = false := beq_eq_false_iff_ne.mpr c22
       have c22b1 : (a0_0 != 1) = true := bne_iff_ne.mpr c22
       by_cases c32 : a0_0 = 2
       ·rw [if_pos c32] at H
        have c32b0 : (a0_0 == 2) = true := beq_iff_eq.mpr c32
        have c32b1 : (a0_0 != 2) = false := bne_eq_false_iff_eq.mpr c32
        clear c32
        replace H := Option.bind_eq_some_iff.mp H
        obtain ⟨t283, A330, H⟩ := H
        replace H : (if 8 + t283.size ≤ 9223372036854775807 then (if ((⟨#[112, 114, 111, 106, 101, 99, 116, 40]⟩ : ByteArray) ++ t283).size + 2 ≤ 9223372036854775807 then (if (((⟨#[112, 114, 111, 106, 101, 99, 116, 40]⟩ : ByteArray) ++ t283) ++ (⟨#[44, 32]⟩ : ByteArray)).size + t281.size ≤ 9223372036854775807 then (if ((((⟨#[112, 114, 111, 106, 101, 99, 116, 40]⟩ : ByteArray) ++ t283) ++ (⟨#[44, 32]⟩ : ByteArray)) ++ t281).size + 1 ≤ 9223372036854775807 then (some (((((⟨#[112, 114, 111, 106, 101, 99, 116, 40]⟩ : ByteArray) ++ t283) ++ (⟨#[44, 32]⟩ : ByteArray)) ++ t281) ++ (⟨#[41]⟩ : ByteArray))) else (none)) else (none)) else (none)) else (none)) = some r := H
        have A33 := Aside0.mk A330
        clear A330
        by_cases c34 : 8 + t283.size ≤ 9223372036854775807
        ·rw [if_pos c34] at H
         have c34b0 := eq_true c34
         have c34b1 : decide (8 + t283.size ≤ 9223372036854775807) = true := decide_eq_true c34
         try have c34b2 : (9223372036854775807 < 8 + t283.size) = False := eq_false (Nat.not_lt.2 c34)
         by_cases c35 : ((⟨#[112, 114, 111, 106, 101, 99, 116, 40]⟩ : ByteArray) ++ t283).size + 2 ≤ 9223372036854775807
         ·rw [if_pos c35] at H
          have c35b0 := eq_true c35
          have c35b1 : decide (((⟨#[112, 114, 111, 106, 101, 99, 116, 40]⟩ : ByteArray) ++ t283).size + 2 ≤ 9223372036854775807) = true := decide_eq_true c35
          try have c35b2 : (9223372036854775807 < ((⟨#[112, 114, 111, 106, 101, 99, 116, 40]⟩ : ByteArray) ++ t283).size + 2) = False := eq_false (Nat.not_lt.2 c35)
          (try (have c35b0z := c35b0; simp only [ByteArray.size_append] at c35b0z))
          (try (have c35b1z := c35b1; simp only [ByteArray.size_append] at c35b1z))
          (try (have c35b2z := c35b2; simp only [ByteArray.size_append] at c35b2z))
          (try (have c35b2y : (9223372036854775807 < 8 + t283.size + 2) = False := by (apply eq_false; have hq_ := c35; simp only [ByteArray.size_append, ByteArray.size_extract] at hq_; have hl0_ : (⟨#[112, 114, 111, 106, 101, 99, 116, 40]⟩ : ByteArray).size = 8 := rfl; omega)))
          by_cases c36 : (((⟨#[112, 114, 111, 106, 101, 99, 116, 40]⟩ : ByteArray) ++ t283) ++ (⟨#[44, 32]⟩ : ByteArray)).size + t281.size ≤ 9223372036854775807
          ·rw [if_pos c36] at H
           have c36b0 := eq_true c36
           have c36b1 : decide ((((⟨#[112, 114, 111, 106, 101, 99, 116, 40]⟩ : ByteArray) ++ t283) ++ (⟨#[44, 32]⟩ : ByteArray)).size + t281.size ≤ 9223372036854775807) = true := decide_eq_true c36
           try have c36b2 : (9223372036854775807 < (((⟨#[112, 114, 111, 106, 101, 99, 116, 40]⟩ : ByteArray) ++ t283) ++ (⟨#[44, 32]⟩ : ByteArray)).size + t281.size) = False := eq_false (Nat.not_lt.2 c36)
           (try (have c36b0z := c36b0; simp only [ByteArray.size_append] at c36b0z))
           (try (have c36b1z := c36b1; simp only [ByteArray.size_append] at c36b1z))
           (try (have c36b2z := c36b2; simp only [ByteArray.size_append] at c36b2z))
           (try (have c36b2y : (9223372036854775807 < 8 + t283.size + 2 + t281.size) = False := by (apply eq_false; have hq_ := c36; simp only [ByteArray.size_append, ByteArray.size_extract] at hq_; have hl0_ : (⟨#[112, 114, 111, 106, 101, 99, 116, 40]⟩ : ByteArray).size = 8 := rfl; have hl1_ : (⟨#[44, 32]⟩ : ByteArray).size = 2 := rfl; omega)))
           by_cases c37 : ((((⟨#[112, 114, 111, 106, 101, 99, 116, 40]⟩ : ByteArray) ++ t283) ++ (⟨#[44, 32]⟩ : ByteArray)) ++ t281).size + 1 ≤ 9223372036854775807
           ·rw [if_pos c37] at H
            have c37b0 := eq_true c37
            have c37b1 : decide (((((⟨#[112, 114, 111, 106, 101, 99, 116, 40]⟩ : ByteArray) ++ t283) ++ (⟨#[44, 32]⟩ : ByteArray)) ++ t281).size + 1 ≤ 9223372036854775807) = true := decide_eq_true c37
            try have c37b2 : (9223372036854775807 < ((((⟨#[112, 114, 111, 106, 101, 99, 116, 40]⟩ : ByteArray) ++ t283) ++ (⟨#[44, 32]⟩ : ByteArray)) ++ t281).size + 1) = False := eq_false (Nat.not_lt.2 c37)
            (try (have c37b0z := c37b0; simp only [ByteArray.size_append] at c37b0z))
            (try (have c37b1z := c37b1; simp only [ByteArray.size_append] at c37b1z))
            (try (have c37b2z := c37b2; simp only [ByteArray.size_append] at c37b2z))
            (try (have c37b2y : (9223372036854775807 < 8 + t283.size + 2 + t281.size + 1) = False := by (apply eq_false; have hq_ := c37; simp only [ByteArray.size_append, ByteArray.size_extract] at hq_; have hl0_ : (⟨#[112, 114, 111, 106, 101, 99, 116, 40]⟩ : ByteArray).size = 8 := rfl; have hl1_ : (⟨#[44, 32]⟩ : ByteArray).size = 2 := rfl; omega)))
            obtain rfl := Option.some.inj H
            obtain ⟨Ao38, co38, eo38⟩ := Kd.R_slice HO_5.out
            subst eo38
            go_wp2_with (first | ((with_reducible refine gate_callee (f := 78) rfl ?_); refine gsL_ (some 27) Tryd.func78 #[.slice Ao38 x5_1.length co38, .string (⟨#[44, 32]⟩ : ByteArray)] ?_; (with_reducible refine (strings_Join.calls _ _ x5_1 (⟨#[44, 32]⟩ : ByteArray) t281 _ ?side1 ?side2 A17.out).mono ?_); (case side1 => exact ck_ (Kd.R_reads' HO_5.out).2.2); (case side2 => exact (Kd.R_reads' HO_5.out).2.1); rintro e w39 ⟨rfl, hb⟩; refine ⟨_, rfl, ?_⟩; replace HO_5 := Aside0.mk (Kd.R_below (rk_ HO_5.out) hb); replace BK274 := bkb_ BK274 hb; replace HB := bs_ hb; (try clear hb); (try clear hb2); (try clear hk); (try clear hi); obtain ⟨hcz40_0, hcz40_1, hcz40_2, hcz40_3, hcz40_4, hcz40_5, hcz40_6, hcz40_7, hcz40_8, hcz40_9, hcz40_10, hcz40_11, hfz40_0, hfz40_1, hfz40_2, hfz40_3, hfz40_4, hfz40_5, hfz40_6, hfz40_7, hfz40_8, hfz40_9, hfz40_10, hfz40_11⟩ := b12_ BK274) | ((with_reducible refine gate_callee (f := 110) rfl ?_); refine gsL_ (some 48) Tryd.func110 #[.slice A0_9 l0_9.length c0_9] ?_; (with_reducible refine (impl_expTexts.calls k1 _ _ l0_9 t283 _ ?side1 ?side2 A33.out).mono ?_); (case side1 => exact ck_ (Kd.C_below HR0_9.out HB.out)); (case side2 => exact HC0_9.out); rintro e w41 ⟨rfl, hb⟩; refine ⟨_, rfl, ?_⟩; replace HO_5 := Aside0.mk (Kd.R_below (rk_ HO_5.out) hb); replace BK274 := bkb_ BK274 hb; replace HB := bs_ hb; (try clear hb); (try clear hb2); (try clear hk); (try clear hi)))
            go_ret
            exact ⟨er_, bb_⟩
           ·rw [if_neg c37] at H
            exact absurd H (by simp)
          ·rw [if_neg c36] at H
           exact absurd H (by simp)
         ·rw [if_neg c35] at H
          exact absurd H (by simp)
        ·rw [if_neg c34] at H
         exact absurd H (by simp)
       ·rw [if_neg c32] at H
        have c32b0 : (a0_0 == 2) = false := beq_eq_false_iff_ne.mpr c32
        have c32b1 : (a0_0 != 2) = true := bne_iff_ne.mpr c32
        by_cases c42 : a0_0 = 3
        ·rw [if_pos c42] at H
         have c42b0 : (a0_0 == 3) = true := beq_iff_eq.mpr c42
         have c42b1 : (a0_0 != 3) = false := bne_eq_false_iff_eq.mpr c42
         clear c42
         replace H := Option.bind_eq_some_iff.mp H
         obtain ⟨t284, A430, H⟩ := H
         replace H : (if 5 + t284.size ≤ 9223372036854775807 then (if ((⟨#[106, 111, 105, 110, 40]⟩ : ByteArray) ++ t284).size + 2 ≤ 9223372036854775807 then (if (((⟨#[106, 111, 105, 110, 40]⟩ : ByteArray) ++ t284) ++ (⟨#[44, 32]⟩ : ByteArray)).size + t281.size ≤ 9223372036854775807 then (if ((((⟨#[106, 111, 105, 110, 40]⟩ : ByteArray) ++ t284) ++ (⟨#[44, 32]⟩ : ByteArray)) ++ t281).size + 1 ≤ 9223372036854775807 then (some (((((⟨#[106, 111, 105, 110, 40]⟩ : ByteArray) ++ t284) ++ (⟨#[44, 32]⟩ : ByteArray)) ++ t281) ++ (⟨#[41]⟩ : ByteArray))) else (none)) else (none)) else (none)) else (none)) = some r := H
         have A43 := Aside0.mk A430
         clear A430
         by_cases c44 : 5 + t284.size ≤ 9223372036854775807
         ·rw [if_pos c44] at H
          have c44b0 := eq_true c44
          have c44b1 : decide (5 + t284.size ≤ 9223372036854775807) = true := decide_eq_true c44
          try have c44b2 : (9223372036854775807 < 5 + t284.size) = False := eq_false (Nat.not_lt.2 c44)
          by_cases c45 : ((⟨#[106, 111, 105, 110, 40]⟩ : ByteArray) ++ t284).size + 2 ≤ 9223372036854775807
          ·rw [if_pos c45] at H
           have c45b0 := eq_true c45
           have c45b1 : decide (((⟨#[106, 111, 105, 110, 40]⟩ : ByteArray) ++ t284).size + 2 ≤ 9223372036854775807) = true := decide_eq_true c45
           try have c45b2 : (9223372036854775807 < ((⟨#[106, 111, 105, 110, 40]⟩ : ByteArray) ++ t284).size + 2) = False := eq_false (Nat.not_lt.2 c45)
           (try (have c45b0z := c45b0; simp only [ByteArray.size_append] at c45b0z))
           (try (have c45b1z := c45b1; simp only [ByteArray.size_append] at c45b1z))
           (try (have c45b2z := c45b2; simp only [ByteArray.size_append] at c45b2z))
           (try (have c45b2y : (9223372036854775807 < 5 + t284.size + 2) = False := by (apply eq_false; have hq_ := c45; simp only [ByteArray.size_append, ByteArray.size_extract] at hq_; have hl0_ : (⟨#[106, 111, 105, 110, 40]⟩ : ByteArray).size = 5 := rfl; omega)))
           by_cases c46 : (((⟨#[106, 111, 105, 110, 40]⟩ : ByteArray) ++ t284) ++ (⟨#[44, 32]⟩ : ByteArray)).size + t281.size ≤ 9223372036854775807
           ·rw [if_pos c46] at H
            have c46b0 := eq_true c46
            have c46b1 : decide ((((⟨#[106, 111, 105, 110, 40]⟩ : ByteArray) ++ t284) ++ (⟨#[44, 32]⟩ : ByteArray)).size + t281.size ≤ 9223372036854775807) = true := decide_eq_true c46
            try have c46b2 : (9223372036854775807 < (((⟨#[106, 111, 105, 110, 40]⟩ : ByteArray) ++ t284) ++ (⟨#[44, 32]⟩ : ByteArray)).size + t281.size) = False := eq_false (Nat.not_lt.2 c46)
            (try (have c46b0z := c46b0; simp only [ByteArray.size_append] at c46b0z))
            (try (have c46b1z := c46b1; simp only [ByteArray.size_append] at c46b1z))
            (try (have c46b2z := c46b2; simp only [ByteArray.size_append] at c46b2z))
            (try (have c46b2y : (9223372036854775807 < 5 + t284.size + 2 + t281.size) = False := by (apply eq_false; have hq_ := c46; simp only [ByteArray.size_append, ByteArray.size_extract] at hq_; have hl0_ : (⟨#[106, 111, 105, 110, 40]⟩ : ByteArray).size = 5 := rfl; have hl1_ : (⟨#[44, 32]⟩ : ByteArray).size = 2 := rfl; omega)))
            by_cases c47 : ((((⟨#[106, 111, 105, 110, 40]⟩ : ByteArray) ++ t284) ++ (⟨#[44, 32]⟩ : ByteArray)) ++ t281).size + 1 ≤ 9223372036854775807
            ·rw [if_pos c47] at H
             have c47b0 := eq_true c47
             have c47b1 : decide (((((⟨#[106, 111, 105, 110, 40]⟩ : ByteArray) ++ t284) ++ (⟨#[44, 32]⟩ : ByteArray)) ++ t281).size + 1 ≤ 9223372036854775807) = true := decide_eq_true c47
             try have c47b2 : (9223372036854775807 < ((((⟨#[106, 111, 105, 110, 40]⟩ : ByteArray) ++ t284) ++ (⟨#[44, 32]⟩ : ByteArray)) ++ t281).size + 1) = False := eq_false (Nat.not_lt.2 c47)
             (try (have c47b0z := c47b0; simp only [ByteArray.size_append] at c47b0z))
             (try (have c47b1z := c47b1; simp only [ByteArray.size_append] at c47b1z))
             (try (have c47b2z := c47b2; simp only [ByteArray.size_append] at c47b2z))
             (try (have c47b2y : (9223372036854775807 < 5 + t284.size + 2 + t281.size + 1) = False := by (apply eq_false; have hq_ := c47; simp only [ByteArray.size_append, ByteArray.size_extract] at hq_; have hl0_ : (⟨#[106, 111, 105, 110, 40]⟩ : ByteArray).size = 5 := rfl; have hl1_ : (⟨#[44, 32]⟩ : ByteArray).size = 2 := rfl; omega)))
             obtain rfl := Option.some.inj H
             obtain ⟨Ao48, co48, eo48⟩ := Kd.R_slice HO_5.out
             subst eo48
             go_wp2_with (first | ((with_reducible refine gate_callee (f := 78) rfl ?_); refine gsL_ (some 27) Tryd.func78 #[.slice Ao48 x5_1.length co48, .string (⟨#[44, 32]⟩ : ByteArray)] ?_; (with_reducible refine (strings_Join.calls _ _ x5_1 (⟨#[44, 32]⟩ : ByteArray) t281 _ ?side1 ?side2 A17.out).mono ?_); (case side1 => exact ck_ (Kd.R_reads' HO_5.out).2.2); (case side2 => exact (Kd.R_reads' HO_5.out).2.1); rintro e w49 ⟨rfl, hb⟩; refine ⟨_, rfl, ?_⟩; replace HO_5 := Aside0.mk (Kd.R_below (rk_ HO_5.out) hb); replace BK274 := bkb_ BK274 hb; replace HB := bs_ hb; (try clear hb); (try clear hb2); (try clear hk); (try clear hi); obtain ⟨hcz50_0, hcz50_1, hcz50_2, hcz50_3, hcz50_4, hcz50_5, hcz50_6, hcz50_7, hcz50_8, hcz50_9, hcz50_10, hcz50_11, hfz50_0, hfz50_1, hfz50_2, hfz50_3, hfz50_4, hfz50_5, hfz50_6, hfz50_7, hfz50_8, hfz50_9, hfz50_10, hfz50_11⟩ := b12_ BK274) | ((with_reducible refine gate_callee (f := 10) rfl ?_); refine gsL_ (some 58) Tryd.func10 #[.agg #[.int .i64 a0_2, .int .i64 a0_3, .int .i64 a0_4, .int .i64 a0_5, .string a0_6, .string a0_7, .slice A0_8 l0_8.length c0_8]] ?_; (with_reducible refine (impl_ExpText.calls k1 a0_2 a0_3 a0_4 a0_5 a0_6 a0_7 _ _ l0_8 t284 _ ?side1 ?side2 A43.out).mono ?_); (case side1 => exact ck_ (Kd.C_below HR0_8.out HB.out)); (case side2 => exact HC0_8.out); rintro e w51 ⟨rfl, hb⟩; refine ⟨_, rfl, ?_⟩; replace HO_5 := Aside0.mk (Kd.R_below (rk_ HO_5.out) hb); replace BK274 := bkb_ BK274 hb; replace HB := bs_ hb; (try clear hb); (try clear hb2); (try clear hk); (try clear hi)))
             go_ret
             exact ⟨er_, bb_⟩
            ·rw [if_neg c47] at H
             exact absurd H (by simp)
           ·rw [if_neg c46] at H
            exact absurd H (by simp)
          ·rw [if_neg c45] at H
           exact absurd H (by simp)
         ·rw [if_neg c44] at H
          exact absurd H (by simp)
        ·rw [if_neg c42] at H
         have c42b0 : (a0_0 == 3) = false := beq_eq_false_iff_ne.mpr c42
         have c42b1 : (a0_0 != 3) = true := bne_iff_ne.mpr c42
         by_cases c52 : a0_0 = 4
         ·rw [if_pos c52] at H
          have c52b0 : (a0_0 == 4) = true := beq_iff_eq.mpr c52
          have c52b1 : (a0_0 != 4) = false := bne_eq_false_iff_eq.mpr c52
          clear c52
          by_cases c53 : 6 + t281.size ≤ 9223372036854775807
          ·rw [if_pos c53] at H
           have c53b0 := eq_true c53
           have c53b1 : decide (6 + t281.size ≤ 9223372036854775807) = true := decide_eq_true c53
           try have c53b2 : (9223372036854775807 < 6 + t281.size) = False := eq_false (Nat.not_lt.2 c53)
           by_cases c54 : ((⟨#[117, 110, 105, 111, 110, 40]⟩ : ByteArray) ++ t281).size + 1 ≤ 9223372036854775807
           ·rw [if_pos c54] at H
            have c54b0 := eq_true c54
            have c54b1 : decide (((⟨#[117, 110, 105, 111, 110, 40]⟩ : ByteArray) ++ t281).size + 1 ≤ 9223372036854775807) = true := decide_eq_true c54
            try have c54b2 : (9223372036854775807 < ((⟨#[117, 110, 105, 111, 110, 40]⟩ : ByteArray) ++ t281).size + 1) = False := eq_false (Nat.not_lt.2 c54)
            (try (have c54b0z := c54b0; simp only [ByteArray.size_append] at c54b0z))
            (try (have c54b1z := c54b1; simp only [ByteArray.size_append] at c54b1z))
            (try (have c54b2z := c54b2; simp only [ByteArray.size_append] at c54b2z))
            (try (have c54b2y : (9223372036854775807 < 6 + t281.size + 1) = False := by (apply eq_false; have hq_ := c54; simp only [ByteArray.size_append, ByteArray.size_extract] at hq_; have hl0_ : (⟨#[117, 110, 105, 111, 110, 40]⟩ : ByteArray).size = 6 := rfl; omega)))
            obtain rfl := Option.some.inj H
            obtain ⟨Ao55, co55, eo55⟩ := Kd.R_slice HO_5.out
            subst eo55
            go_wp2_with (first | ((with_reducible refine gate_callee (f := 78) rfl ?_); refine gsL_ (some 27) Tryd.func78 #[.slice Ao55 x5_1.length co55, .string (⟨#[44, 32]⟩ : ByteArray)] ?_; (with_reducible refine (strings_Join.calls _ _ x5_1 (⟨#[44, 32]⟩ : ByteArray) t281 _ ?side1 ?side2 A17.out).mono ?_); (case side1 => exact ck_ (Kd.R_reads' HO_5.out).2.2); (case side2 => exact (Kd.R_reads' HO_5.out).2.1); rintro e w56 ⟨rfl, hb⟩; refine ⟨_, rfl, ?_⟩; replace HO_5 := Aside0.mk (Kd.R_below (rk_ HO_5.out) hb); replace BK274 := bkb_ BK274 hb; replace HB := bs_ hb; (try clear hb); (try clear hb2); (try clear hk); (try clear hi); obtain ⟨hcz57_0, hcz57_1, hcz57_2, hcz57_3, hcz57_4, hcz57_5, hcz57_6, hcz57_7, hcz57_8, hcz57_9, hcz57_10, hcz57_11, hfz57_0, hfz57_1, hfz57_2, hfz57_3, hfz57_4, hfz57_5, hfz57_6, hfz57_7, hfz57_8, hfz57_9, hfz57_10, hfz57_11⟩ := b12_ BK274))
            go_ret
            exact ⟨er_, bb_⟩
           ·rw [if_neg c54] at H
            exact absurd H (by simp)
          ·rw [if_neg c53] at H
           exact absurd H (by simp)
         ·rw [if_neg c52] at H
          have c52b0 : (a0_0 == 4) = false := beq_eq_false_iff_ne.mpr c52
          have c52b1 : (a0_0 != 4) = true := bne_iff_ne.mpr c52
          by_cases c58 : a0_0 = 5
          ·rw [if_pos c58] at H
           have c58b0 : (a0_0 == 5) = true := beq_iff_eq.mpr c58
           have c58b1 : (a0_0 != 5) = false := bne_eq_false_iff_eq.mpr c58
           clear c58
           by_cases c59 : 9 + t281.size ≤ 9223372036854775807
           ·rw [if_pos c59] at H
            have c59b0 := eq_true c59
            have c59b1 : decide (9 + t281.size ≤ 9223372036854775807) = true := decide_eq_true c59
            try have c59b2 : (9223372036854775807 < 9 + t281.size) = False := eq_false (Nat.not_lt.2 c59)
            by_cases c60 : ((⟨#[100, 105, 115, 116, 105, 110, 99, 116, 40]⟩ : ByteArray) ++ t281).size + 1 ≤ 9223372036854775807
            ·rw [if_pos c60] at H
             have c60b0 := eq_true c60
             have c60b1 : decide (((⟨#[100, 105, 115, 116, 105, 110, 99, 116, 40]⟩ : ByteArray) ++ t281).size + 1 ≤ 9223372036854775807) = true := decide_eq_true c60
             try have c60b2 : (9223372036854775807 < ((⟨#[100, 105, 115, 116, 105, 110, 99, 116, 40]⟩ : ByteArray) ++ t281).size + 1) = False := eq_false (Nat.not_lt.2 c60)
             (try (have c60b0z := c60b0; simp only [ByteArray.size_append] at c60b0z))
             (try (have c60b1z := c60b1; simp only [ByteArray.size_append] at c60b1z))
             (try (have c60b2z := c60b2; simp only [ByteArray.size_append] at c60b2z))
             (try (have c60b2y : (9223372036854775807 < 9 + t281.size + 1) = False := by (apply eq_false; have hq_ := c60; simp only [ByteArray.size_append, ByteArray.size_extract] at hq_; have hl0_ : (⟨#[100, 105, 115, 116, 105, 110, 99, 116, 40]⟩ : ByteArray).size = 9 := rfl; omega)))
             obtain rfl := Option.some.inj H
             obtain ⟨Ao61, co61, eo61⟩ := Kd.R_slice HO_5.out
             subst eo61
             go_wp2_with (first | ((with_reducible refine gate_callee (f := 78) rfl ?_); refine gsL_ (some 27) Tryd.func78 #[.slice Ao61 x5_1.length co61, .string (⟨#[44, 32]⟩ : ByteArray)] ?_; (with_reducible refine (strings_Join.calls _ _ x5_1 (⟨#[44, 32]⟩ : ByteArray) t281 _ ?side1 ?side2 A17.out).mono ?_); (case side1 => exact ck_ (Kd.R_reads' HO_5.out).2.2); (case side2 => exact (Kd.R_reads' HO_5.out).2.1); rintro e w62 ⟨rfl, hb⟩; refine ⟨_, rfl, ?_⟩; replace HO_5 := Aside0.mk (Kd.R_below (rk_ HO_5.out) hb); replace BK274 := bkb_ BK274 hb; replace HB := bs_ hb; (try clear hb); (try clear hb2); (try clear hk); (try clear hi); obtain ⟨hcz63_0, hcz63_1, hcz63_2, hcz63_3, hcz63_4, hcz63_5, hcz63_6, hcz63_7, hcz63_8, hcz63_9, hcz63_10, hcz63_11, hfz63_0, hfz63_1, hfz63_2, hfz63_3, hfz63_4, hfz63_5, hfz63_6, hfz63_7, hfz63_8, hfz63_9, hfz63_10, hfz63_11⟩ := b12_ BK274))
             go_ret
             exact ⟨er_, bb_⟩
            ·rw [if_neg c60] at H
             exact absurd H (by simp)
           ·rw [if_neg c59] at H
            exact absurd H (by simp)
          ·rw [if_neg c58] at H
           have c58b0 : (a0_0 == 5) = false := beq_eq_false_iff_ne.mpr c58
           have c58b1 : (a0_0 != 5) = true := bne_iff_ne.mpr c58
           by_cases c64 : a0_0 = 6
           ·rw [if_pos c64] at H
            have c64b0 : (a0_0 == 6) = true := beq_iff_eq.mpr c64
            have c64b1 : (a0_0 != 6) = false := bne_eq_false_iff_eq.mpr c64
            clear c64
            replace H := Option.bind_eq_some_iff.mp H
            obtain ⟨t285, A650, H⟩ := H
            replace H : (if 6 + t285.size ≤ 9223372036854775807 then (if ((⟨#[103, 114, 111, 117, 112, 40]⟩ : ByteArray) ++ t285).size + 2 ≤ 9223372036854775807 then ((impl_expTexts.f k1 l0_9).bind fun t286 => (if (((⟨#[103, 114, 111, 117, 112, 40]⟩ : ByteArray) ++ t285) ++ (⟨#[44, 32]⟩ : ByteArray)).size + t286.size ≤ 9223372036854775807 then (if ((((⟨#[103, 114, 111, 117, 112, 40]⟩ : ByteArray) ++ t285) ++ (⟨#[44, 32]⟩ : ByteArray)) ++ t286).size + 2 ≤ 9223372036854775807 then (if (((((⟨#[103, 114, 111, 117, 112, 40]⟩ : ByteArray) ++ t285) ++ (⟨#[44, 32]⟩ : ByteArray)) ++ t286) ++ (⟨#[44, 32]⟩ : ByteArray)).size + t281.size ≤ 9223372036854775807 then (if ((((((⟨#[103, 114, 111, 117, 112, 40]⟩ : ByteArray) ++ t285) ++ (⟨#[44, 32]⟩ : ByteArray)) ++ t286) ++ (⟨#[44, 32]⟩ : ByteArray)) ++ t281).size + 1 ≤ 9223372036854775807 then (some (((((((⟨#[103, 114, 111, 117, 112, 40]⟩ : ByteArray) ++ t285) ++ (⟨#[44, 32]⟩ : ByteArray)) ++ t286) ++ (⟨#[44, 32]⟩ : ByteArray)) ++ t281) ++ (⟨#[41]⟩ : ByteArray))) else (none)) else (none)) else (none)) else (none))) else (none)) else (none)) = some r := H
            have A65 := Aside0.mk A650
            clear A650
            by_cases c66 : 6 + t285.size ≤ 9223372036854775807
            ·rw [if_pos c66] at H
             have c66b0 := eq_true c66
             have c66b1 : decide (6 + t285.size ≤ 9223372036854775807) = true := decide_eq_true c66
             try have c66b2 : (9223372036854775807 < 6 + t285.size) = False := eq_false (Nat.not_lt.2 c66)
             by_cases c67 : ((⟨#[103, 114, 111, 117, 112, 40]⟩ : ByteArray) ++ t285).size + 2 ≤ 9223372036854775807
             ·rw [if_pos c67] at H
              have c67b0 := eq_true c67
              have c67b1 : decide (((⟨#[103, 114, 111, 117, 112, 40]⟩ : ByteArray) ++ t285).size + 2 ≤ 9223372036854775807) = true := decide_eq_true c67
              try have c67b2 : (9223372036854775807 < ((⟨#[103, 114, 111, 117, 112, 40]⟩ : ByteArray) ++ t285).size + 2) = False := eq_false (Nat.not_lt.2 c67)
              (try (have c67b0z := c67b0; simp only [ByteArray.size_append] at c67b0z))
              (try (have c67b1z := c67b1; simp only [ByteArray.size_append] at c67b1z))
              (try (have c67b2z := c67b2; simp only [ByteArray.size_append] at c67b2z))
              (try (have c67b2y : (9223372036854775807 < 6 + t285.size + 2) = False := by (apply eq_false; have hq_ := c67; simp only [ByteArray.size_append, ByteArray.size_extract] at hq_; have hl0_ : (⟨#[103, 114, 111, 117, 112, 40]⟩ : ByteArray).size = 6 := rfl; omega)))
              replace H := Option.bind_eq_some_iff.mp H
              obtain ⟨t286, A680, H⟩ := H
              replace H : (if (((⟨#[103, 114, 111, 117, 112, 40]⟩ : ByteArray) ++ t285) ++ (⟨#[44, 32]⟩ : ByteArray)).size + t286.size ≤ 9223372036854775807 then (if ((((⟨#[103, 114, 111, 117, 112, 40]⟩ : ByteArray) ++ t285) ++ (⟨#[44, 32]⟩ : ByteArray)) ++ t286).size + 2 ≤ 9223372036854775807 then (if (((((⟨#[103, 114, 111, 117, 112, 40]⟩ : ByteArray) ++ t285) ++ (⟨#[44, 32]⟩ : ByteArray)) ++ t286) ++ (⟨#[44, 32]⟩ : ByteArray)).size + t281.size ≤ 9223372036854775807 then (if ((((((⟨#[103, 114, 111, 117, 112, 40]⟩ : ByteArray) ++ t285) ++ (⟨#[44, 32]⟩ : ByteArray)) ++ t286) ++ (⟨#[44, 32]⟩ : ByteArray)) ++ t281).size + 1 ≤ 9223372036854775807 then (some (((((((⟨#[103, 114, 111, 117, 112, 40]⟩ : ByteArray) ++ t285) ++ (⟨#[44, 32]⟩ : ByteArray)) ++ t286) ++ (⟨#[44, 32]⟩ : ByteArray)) ++ t281) ++ (⟨#[41]⟩ : ByteArray))) else (none)) else (none)) else (none)) else (none)) = some r := H
              have A68 := Aside0.mk A680
              clear A680
              by_cases c69 : (((⟨#[103, 114, 111, 117, 112, 40]⟩ : ByteArray) ++ t285) ++ (⟨#[44, 32]⟩ : ByteArray)).size + t286.size ≤ 9223372036854775807
              ·rw [if_pos c69] at H
               have c69b0 := eq_true c69
               have c69b1 : decide ((((⟨#[103, 114, 111, 117, 112, 40]⟩ : ByteArray) ++ t285) ++ (⟨#[44, 32]⟩ : ByteArray)).size + t286.size ≤ 9223372036854775807) = true := decide_eq_true c69
               try have c69b2 : (9223372036854775807 < (((⟨#[103, 114, 111, 117, 112, 40]⟩ : ByteArray) ++ t285) ++ (⟨#[44, 32]⟩ : ByteArray)).size + t286.size) = False := eq_false (Nat.not_lt.2 c69)
               (try (have c69b0z := c69b0; simp only [ByteArray.size_append] at c69b0z))
               (try (have c69b1z := c69b1; simp only [ByteArray.size_append] at c69b1z))
               (try (have c69b2z := c69b2; simp only [ByteArray.size_append] at c69b2z))
               (try (have c69b2y : (9223372036854775807 < 6 + t285.size + 2 + t286.size) = False := by (apply eq_false; have hq_ := c69; simp only [ByteArray.size_append, ByteArray.size_extract] at hq_; have hl0_ : (⟨#[103, 114, 111, 117, 112, 40]⟩ : ByteArray).size = 6 := rfl; have hl1_ : (⟨#[44, 32]⟩ : ByteArray).size = 2 := rfl; omega)))
               by_cases c70 : ((((⟨#[103, 114, 111, 117, 112, 40]⟩ : ByteArray) ++ t285) ++ (⟨#[44, 32]⟩ : ByteArray)) ++ t286).size + 2 ≤ 9223372036854775807
               ·rw [if_pos c70] at H
                have c70b0 := eq_true c70
                have c70b1 : decide (((((⟨#[103, 114, 111, 117, 112, 40]⟩ : ByteArray) ++ t285) ++ (⟨#[44, 32]⟩ : ByteArray)) ++ t286).size + 2 ≤ 9223372036854775807) = true := decide_eq_true c70
                try have c70b2 : (9223372036854775807 < ((((⟨#[103, 114, 111, 117, 112, 40]⟩ : ByteArray) ++ t285) ++ (⟨#[44, 32]⟩ : ByteArray)) ++ t286).size + 2) = False := eq_false (Nat.not_lt.2 c70)
                (try (have c70b0z := c70b0; simp only [ByteArray.size_append] at c70b0z))
                (try (have c70b1z := c70b1; simp only [ByteArray.size_append] at c70b1z))
                (try (have c70b2z := c70b2; simp only [ByteArray.size_append] at c70b2z))
                (try (have c70b2y : (9223372036854775807 < 6 + t285.size + 2 + t286.size + 2) = False := by (apply eq_false; have hq_ := c70; simp only [ByteArray.size_append, ByteArray.size_extract] at hq_; have hl0_ : (⟨#[103, 114, 111, 117, 112, 40]⟩ : ByteArray).size = 6 := rfl; have hl1_ : (⟨#[44, 32]⟩ : ByteArray).size = 2 := rfl; omega)))
                by_cases c71 : (((((⟨#[103, 114, 111, 117, 112, 40]⟩ : ByteArray) ++ t285) ++ (⟨#[44, 32]⟩ : ByteArray)) ++ t286) ++ (⟨#[44, 32]⟩ : ByteArray)).size + t281.size ≤ 9223372036854775807
                ·rw [if_pos c71] at H
                 have c71b0 := eq_true c71
                 have c71b1 : decide ((((((⟨#[103, 114, 111, 117, 112, 40]⟩ : ByteArray) ++ t285) ++ (⟨#[44, 32]⟩ : ByteArray)) ++ t286) ++ (⟨#[44, 32]⟩ : ByteArray)).size + t281.size ≤ 9223372036854775807) = true := decide_eq_true c71
                 try have c71b2 : (9223372036854775807 < (((((⟨#[103, 114, 111, 117, 112, 40]⟩ : ByteArray) ++ t285) ++ (⟨#[44, 32]⟩ : ByteArray)) ++ t286) ++ (⟨#[44, 32]⟩ : ByteArray)).size + t281.size) = False := eq_false (Nat.not_lt.2 c71)
                 (try (have c71b0z := c71b0; simp only [ByteArray.size_append] at c71b0z))
                 (try (have c71b1z := c71b1; simp only [ByteArray.size_append] at c71b1z))
                 (try (have c71b2z := c71b2; simp only [ByteArray.size_append] at c71b2z))
                 (try (have c71b2y : (9223372036854775807 < 6 + t285.size + 2 + t286.size + 2 + t281.size) = False := by (apply eq_false; have hq_ := c71; simp only [ByteArray.size_append, ByteArray.size_extract] at hq_; have hl0_ : (⟨#[103, 114, 111, 117, 112, 40]⟩ : ByteArray).size = 6 := rfl; have hl1_ : (⟨#[44, 32]⟩ : ByteArray).size = 2 := rfl; omega)))
                 by_cases c72 : ((((((⟨#[103, 114, 111, 117, 112, 40]⟩ : ByteArray) ++ t285) ++ (⟨#[44, 32]⟩ : ByteArray)) ++ t286) ++ (⟨#[44, 32]⟩ : ByteArray)) ++ t281).size + 1 ≤ 9223372036854775807
                 ·rw [if_pos c72] at H
                  have c72b0 := eq_true c72
                  have c72b1 : decide (((((((⟨#[103, 114, 111, 117, 112, 40]⟩ : ByteArray) ++ t285) ++ (⟨#[44, 32]⟩ : ByteArray)) ++ t286) ++ (⟨#[44, 32]⟩ : ByteArray)) ++ t281).size + 1 ≤ 9223372036854775807) = true := decide_eq_true c72
                  try have c72b2 : (9223372036854775807 < ((((((⟨#[103, 114, 111, 117, 112, 40]⟩ : ByteArray) ++ t285) ++ (⟨#[44, 32]⟩ : ByteArray)) ++ t286) ++ (⟨#[44, 32]⟩ : ByteArray)) ++ t281).size + 1) = False := eq_false (Nat.not_lt.2 c72)
                  (try (have c72b0z := c72b0; simp only [ByteArray.size_append] at c72b0z))
                  (try (have c72b1z := c72b1; simp only [ByteArray.size_append] at c72b1z))
                  (try (have c72b2z := c72b2; simp only [ByteArray.size_append] at c72b2z))
                  (try (have c72b2y : (9223372036854775807 < 6 + t285.size + 2 + t286.size + 2 + t281.size + 1) = False := by (apply eq_false; have hq_ := c72; simp only [ByteArray.size_append, ByteArray.size_extract] at hq_; have hl0_ : (⟨#[103, 114, 111, 117, 112, 40]⟩ : ByteArray).size = 6 := rfl; have hl1_ : (⟨#[44, 32]⟩ : ByteArray).size = 2 := rfl; omega)))
                  obtain rfl := Option.some.inj H
                  obtain ⟨Ao73, co73, eo73⟩ := Kd.R_slice HO_5.out
                  subst eo73
                  try go_wp2_with (first | ((with_reducible refine gate_callee (f := 78) rfl ?_); refine gsL_ (some 27) Tryd.func78 #[.slice Ao73 x5_1.length co73, .string (⟨#[44, 32]⟩ : ByteArray)] ?_; (with_reducible refine (strings_Join.calls _ _ x5_1 (⟨#[44, 32]⟩ : ByteArray) t281 _ ?side1 ?side2 A17.out).mono ?_); (case side1 => exact ck_ (Kd.R_reads' HO_5.out).2.2); (case side2 => exact (Kd.R_reads' HO_5.out).2.1); rintro e w74 ⟨rfl, hb⟩; refine ⟨_, rfl, ?_⟩; replace HO_5 := Aside0.mk (Kd.R_below (rk_ HO_5.out) hb); replace BK274 := bkb_ BK274 hb; replace HB := bs_ hb; (try clear hb); (try clear hb2); (try clear hk); (try clear hi); obtain ⟨hcz75_0, hcz75_1, hcz75_2, hcz75_3, hcz75_4, hcz75_5, hcz75_6, hcz75_7, hcz75_8, hcz75_9, hcz75_10, hcz75_11, hfz75_0, hfz75_1, hfz75_2, hfz75_3, hfz75_4, hfz75_5, hfz75_6, hfz75_7, hfz75_8, hfz75_9, hfz75_10, hfz75_11⟩ := b12_ BK274))
                  replace HO_5 := Aside0.mk (Kd.R_drew HO_5.out)
                  replace BK274 := Aside0.mk (blk_drew BK274.out)
                  replace HB := Aside0.mk (below_drew1 HB.out)
                  refine start_ (n := 14) (S := fun w' => w'.cell? ⟨gb274, 0, none⟩ = some (.int .i64 a0_0) ∧ w'.cell? ⟨gb274, 1, none⟩ = some (.string a0_1) ∧ w'.cell? ⟨gb274, 2, none⟩ = some (.int .i64 a0_2) ∧ w'.cell? ⟨gb274, 3, none⟩ = some (.int .i64 a0_3) ∧ w'.cell? ⟨gb274, 4, none⟩ = some (.int .i64 a0_4) ∧ w'.cell? ⟨gb274, 5, none⟩ = some (.int .i64 a0_5) ∧ w'.cell? ⟨gb274, 6, none⟩ = some (.string a0_6) ∧ w'.cell? ⟨gb274, 7, none⟩ = some (.string a0_7) ∧ w'.cell? ⟨gb274, 8, none⟩ = some (.slice A0_8 l0_8.length c0_8) ∧ w'.cell? ⟨gb274, 9, none⟩ = some (.slice A0_9 l0_9.length c0_9) ∧ w'.cell? ⟨gb274, 10, none⟩ = some (.int .i64 a0_10) ∧ w'.cell? ⟨gb274, 11, none⟩ = some (.slice A0_11 l0_11.length c0_11)) (ds := []) (tf 0 14) (by kernel_rfl) rfl rfl ⟨bc_ BK274 0, bc_ BK274 1, bc_ BK274 2, bc_ BK274 3, bc_ BK274 4, bc_ BK274 5, bc_ BK274 6, bc_ BK274 7, bc_ BK274 8, bc_ BK274 9, bc_ BK274 10, bc_ BK274 11⟩ (fun hHeld => ?_); refine with_tabW impl_planText.tab24 impl_planText.bits24 (fun HT_ HW_ => ?_)
                  generalize w74.drew = w76 at HO_5 BK274 HB hHeld ⊢
                  refine pl_ ?_
                  refine plx_ 5 #[true, false, false, false, false, true, false, false, false, false, false, false, false, false] ?_
                  refine plx_ 10 #[true, false, false, false, false, true, false, false, false, false, true, false, false, false] ?_
                  refine tlx_ 1 #[true, true, false, false, false, true, false, false, false, false, true, false, false, false] ?_
                  refine tlx_ 6 #[true, true, false, false, false, true, true, false, false, false, true, false, false, false] ?_
                  refine one_ (i := 2) (N := some 78) #[true, true, true, false, false, true, true, false, false, false, true, false, false, false] rfl rfl (one_of HT_.out (by kernel_rfl)) (by decide) (fun K hK => ?_)
                  refine gs_ Tryd.func30 #[.int .i64 a0_10] ?_
                  with_reducible refine (impl_DecText.calls a0_10 t285 _ A65.out).mono ?_
                  rintro e w77 ⟨rfl, hb⟩
                  refine ⟨_, rfl, ?_⟩
                  replace HO_5 := Aside0.mk (Kd.R_below (rk_ HO_5.out) hb)
                  replace BK274 := bkb_ BK274 hb
                  replace HB := bs_ hb
                  (try clear hb)
                  (try clear hb2)
                  (try clear hk)
                  (try clear hi)
                  refine hK.out _ _ ⟨bc_ BK274 0, bc_ BK274 1, bc_ BK274 2, bc_ BK274 3, bc_ BK274 4, bc_ BK274 5, bc_ BK274 6, bc_ BK274 7, bc_ BK274 8, bc_ BK274 9, bc_ BK274 10, bc_ BK274 11⟩ (fun hHeld => ?_)
                  clear hK K
                  refine nm_ ?_
                  refine plx_ 3 #[true, true, true, true, false, true, true, false, false, false, true, false, false, false] ?_
                  refine plx_ 4 #[true, true, true, true, true, true, true, false, false, false, true, false, false, false] ?_
                  refine one_ (i := 7) (N := some 83) #[true, true, true, true, true, true, true, true, false, false, true, false, false, false] rfl rfl (one_of HT_.out (by kernel_rfl)) (by decide) (fun K hK => ?_)
                  refine gs_ Tryd.func110 #[.slice A0_9 l0_9.length c0_9] ?_
                  with_reducible refine (impl_expTexts.calls k1 _ _ l0_9 t286 _ ?side1 ?side2 A68.out).mono ?_
                  (case side1 => exact ck_ (Kd.C_below HR0_9.out HB.out))
                  (case side2 => exact HC0_9.out)
                  rintro e w78 ⟨rfl, hb⟩
                  refine ⟨_, rfl, ?_⟩
                  replace HO_5 := Aside0.mk (Kd.R_below (rk_ HO_5.out) hb)
                  replace BK274 := bkb_ BK274 hb
                  replace HB := bs_ hb
                  (try clear hb)
                  (try clear hb2)
                  (try clear hk)
                  (try clear hi)
                  refine hK.out _ _ ⟨bc_ BK274 0, bc_ BK274 1, bc_ BK274 2, bc_ BK274 3, bc_ BK274 4, bc_ BK274 5, bc_ BK274 6, bc_ BK274 7, bc_ BK274 8, bc_ BK274 9, bc_ BK274 10, bc_ BK274 11⟩ (fun hHeld => ?_)
                  clear hK K
                  refine nm_ ?_
                  refine plx_ 8 #[true, true, true, true, true, true, true, true, true, false, true, false, false, false] ?_
                  refine plx_ 9 (tf 11 3) ?_
                  iterate 3 (refine pl_ ?_)
                  refine done_ (done_of HT_.out (by kernel_rfl)) ?_
                  try go_wp2
                  go_ret
                  exact ⟨er_, bb_⟩
                 ·rw [if_neg c72] at H
                  exact absurd H (by simp)
                ·rw [if_neg c71] at H
                 exact absurd H (by simp)
               ·rw [if_neg c70] at H
                exact absurd H (by simp)
              ·rw [if_neg c69] at H
               exact absurd H (by simp)
             ·rw [if_neg c67] at H
              exact absurd H (by simp)
            ·rw [if_neg c66] at H
             exact absurd H (by simp)
           ·rw [if_neg c64] at H
            have c64b0 : (a0_0 == 6) = false := beq_eq_false_iff_ne.mpr c64
            have c64b1 : (a0_0 != 6) = true := bne_iff_ne.mpr c64
            obtain rfl := Option.some.inj H
            obtain ⟨Ao79, co79, eo79⟩ := Kd.R_slice HO_5.out
            subst eo79
            go_wp2_with (first | ((with_reducible refine gate_callee (f := 78) rfl ?_); refine gsL_ (some 27) Tryd.func78 #[.slice Ao79 x5_1.length co79, .string (⟨#[44, 32]⟩ : ByteArray)] ?_; (with_reducible refine (strings_Join.calls _ _ x5_1 (⟨#[44, 32]⟩ : ByteArray) t281 _ ?side1 ?side2 A17.out).mono ?_); (case side1 => exact ck_ (Kd.R_reads' HO_5.out).2.2); (case side2 => exact (Kd.R_reads' HO_5.out).2.1); rintro e w80 ⟨rfl, hb⟩; refine ⟨_, rfl, ?_⟩; replace HO_5 := Aside0.mk (Kd.R_below (rk_ HO_5.out) hb); replace BK274 := bkb_ BK274 hb; replace HB := bs_ hb; (try clear hb); (try clear hb2); (try clear hk); (try clear hi); obtain ⟨hcz81_0, hcz81_1, hcz81_2, hcz81_3, hcz81_4, hcz81_5, hcz81_6, hcz81_7, hcz81_8, hcz81_9, hcz81_10, hcz81_11, hfz81_0, hfz81_1, hfz81_2, hfz81_3, hfz81_4, hfz81_5, hfz81_6, hfz81_7, hfz81_8, hfz81_9, hfz81_10, hfz81_11⟩ := b12_ BK274))
            go_ret
            exact ⟨er_, bb_⟩

/-! ### impl_PlanText: function 40 -/
def impl_PlanText.f (k : Nat) (a0_0 : Int) (a0_1 : ByteArray) (a0_2 : Int) (a0_3 : Int) (a0_4 : Int) (a0_5 : Int) (a0_6 : ByteArray) (a0_7 : ByteArray) (l0_8 : List (S32)) (l0_9 : List (S32)) (a0_10 : Int) (l0_11 : List (S70)) : Option (ByteArray) := (impl_planText.f k a0_0 a0_1 a0_2 a0_3 a0_4 a0_5 a0_6 a0_7 l0_8 l0_9 a0_10 l0_11 0).bind fun t288 => (some t288)
set_option maxHeartbeats 8000000 in
set_option maxRecDepth 100000 in
theorem impl_PlanText.calls (k : Nat) (a0_0 : Int) (a0_1 : ByteArray) (a0_2 : Int) (a0_3 : Int) (a0_4 : Int) (a0_5 : Int) (a0_6 : ByteArray) (a0_7 : ByteArray) (A0_8 : Option Addr) (c0_8 : Nat) (l0_8 : List (S32)) (A0_9 : Option Addr) (c0_9 : Nat) (l0_9 : List (S32)) (a0_10 : Int) (A0_11 : Option Addr) (c0_11 : Nat) (l0_11 : List (S70)) (r : ByteArray) (w : World) (hr0_8 : Kd.C k32 w A0_8 l0_8.length l0_8) (hc0_8 : l0_8.length ≤ c0_8) (hr0_9 : Kd.C k32 w A0_9 l0_9.length l0_9) (hc0_9 : l0_9.length ≤ c0_9) (hr0_11 : Kd.C k70 w A0_11 l0_11.length l0_11) (hc0_11 : l0_11.length ≤ c0_11) (h : impl_PlanText.f k a0_0 a0_1 a0_2 a0_3 a0_4 a0_5 a0_6 a0_7 l0_8 l0_9 a0_10 l0_11 = some r) (hM : MaxLenIn w := by first | assumption | exact MaxLenIn.drewN (by assumption) _ | exact MaxLenIn.later (by assumption) (by assumption) | exact MaxLenIn.drewN (MaxLenIn.later (by assumption) (by assumption)) _ | exact MaxLenIn.later (by assumption) ⟨by repeat (first | exact Aside0.out (by assumption) | apply below_alloc | apply pw_below_drewN | apply below_drew1 | refine below_set ?_ (Aside0.out (by assumption)))⟩) :
  Calls Tryd.prog 40 #[.agg #[.int .i64 a0_0, .string a0_1, .int .i64 a0_2, .int .i64 a0_3, .int .i64 a0_4, .int .i64 a0_5, .string a0_6, .string a0_7, .slice A0_8 l0_8.length c0_8, .slice A0_9 l0_9.length c0_9, .int .i64 a0_10, .slice A0_11 l0_11.length c0_11]] w fun e w' => e = .returned (.string r) ∧ Below w.heap.size w w' := by
 have hu70 := Tryd.underlying70
 have HR0_8 := Aside0.mk hr0_8
 have HC0_8 := Aside0.mk hc0_8
 clear hr0_8 hc0_8
 have HR0_9 := Aside0.mk hr0_9
 have HC0_9 := Aside0.mk hc0_9
 clear hr0_9 hc0_9
 have HR0_11 := Aside0.mk hr0_11
 have HC0_11 := Aside0.mk hc0_11
 clear hr0_11 hc0_11
 have HB := Aside0.mk (Below.refl w.heap.size w)
 have H : ((impl_planText.f k a0_0 a0_1 a0_2 a0_3 a0_4 a0_5 a0_6 a0_7 l0_8 l0_9 a0_10 l0_11 0).bind fun t288 => (some t288)) = some r := h
 clear h
 replace H := Option.bind_eq_some_iff.mp H
 obtain ⟨t288, A20, H⟩ := H
 replace H : (some t288) = some r := H
 have A2 := Aside0.mk A20
 clear A20
 obtain rfl := Option.some.inj H
 go_enter Tryd.func40, Tryd.ntmps40
 go_wp2_with (first | ((with_reducible refine gate_dst (N := 1) rfl ?_); refine bx_ 1 #[.int .i64 a0_0, .string a0_1, .int .i64 a0_2, .int .i64 a0_3, .int .i64 a0_4, .int .i64 a0_5, .string a0_6, .string a0_7, .slice A0_8 l0_8.length c0_8, .slice A0_9 l0_9.length c0_9, .int .i64 a0_10, .slice A0_11 l0_11.length c0_11] 70 ?_; intro gb287 hg w3 hbox hb; have BK287 := Aside0.mk (hbox); have GW287 := gw_ hg; have GE287 := gw_ hg; replace HB := bs_ hb; clear hb hbox hg; obtain ⟨hcz4_0, hcz4_1, hcz4_2, hcz4_3, hcz4_4, hcz4_5, hcz4_6, hcz4_7, hcz4_8, hcz4_9, hcz4_10, hcz4_11, hfz4_0, hfz4_1, hfz4_2, hfz4_3, hfz4_4, hfz4_5, hfz4_6, hfz4_7, hfz4_8, hfz4_9, hfz4_10, hfz4_11⟩ := b12_ BK287) | ((with_reducible refine gate_callee (f := 84) rfl ?_); refine gsL_ (some 4) Tryd.func84 #[.agg #[.int .i64 a0_0, .string a0_1, .int .i64 a0_2, .int .i64 a0_3, .int .i64 a0_4, .int .i64 a0_5, .string a0_6, .string a0_7, .slice A0_8 l0_8.length c0_8, .slice A0_9 l0_9.length c0_9, .int .i64 a0_10, .slice A0_11 l0_11.length c0_11], .int .i64 0] ?_; (with_reducible refine (impl_planText.calls k a0_0 a0_1 a0_2 a0_3 a0_4 a0_5 a0_6 a0_7 _ _ l0_8 _ _ l0_9 a0_10 _ _ l0_11 0 t288 _ ?side1 ?side2 ?side3 ?side4 ?side5 ?side6 A2.out).mono ?_); (case side1 => exact ck_ (Kd.C_below HR0_8.out HB.out)); (case side2 => exact HC0_8.out); (case side3 => exact ck_ (Kd.C_below HR0_9.out HB.out)); (case side4 => exact HC0_9.out); (case side5 => exact ck_ (Kd.C_below HR0_11.out HB.out)); (case side6 => exact HC0_11.out); rintro e w5 ⟨rfl, hb⟩; refine ⟨_, rfl, ?_⟩; replace BK287 := bkb_ BK287 hb; replace HB := bs_ hb; (try clear hb); (try clear hb2); (try clear hk); (try clear hi)))
 go_ret
 exact ⟨er_, bb_⟩

/-! ### laws_eqValue: function 50 -/
def laws_eqValue.f (a0_0 : Int) (a0_1 : Int) (a0_2 : ByteArray) (a1_0 : Int) (a1_1 : Int) (a1_2 : ByteArray) : Option (Bool) := if a0_0 = a1_0 then (if a0_1 = a1_1 then (if a0_2.toList = a1_2.toList then (some true) else (some false)) else (some false)) else (some false)
set_option maxHeartbeats 8000000 in
set_option maxRecDepth 100000 in
theorem laws_eqValue.calls (a0_0 : Int) (a0_1 : Int) (a0_2 : ByteArray) (a1_0 : Int) (a1_1 : Int) (a1_2 : ByteArray) (r : Bool) (w : World) (h : laws_eqValue.f a0_0 a0_1 a0_2 a1_0 a1_1 a1_2 = some r) :
  Calls Tryd.prog 50 #[.agg #[.int .i64 a0_0, .int .i64 a0_1, .string a0_2], .agg #[.int .i64 a1_0, .int .i64 a1_1, .string a1_2]] w fun e w' => e = .returned (.bool r) ∧ Below w.heap.size w w' := by
 have hu29 := Tryd.underlying29
 have HB := Aside0.mk (Below.refl w.heap.size w)
 have H : (if a0_0 = a1_0 then (if a0_1 = a1_1 then (if a0_2.toList = a1_2.toList then (some true) else (some false)) else (some false)) else (some false)) = some r := h
 clear h
 by_cases c3 : a0_0 = a1_0
 ·rw [if_pos c3] at H
  have c3b0 : (a0_0 == a1_0) = true := beq_iff_eq.mpr c3
  have c3b1 : (a0_0 != a1_0) = false := bne_eq_false_iff_eq.mpr c3
  clear c3
  by_cases c4 : a0_1 = a1_1
  ·rw [if_pos c4] at H
   have c4b0 : (a0_1 == a1_1) = true := beq_iff_eq.mpr c4
   have c4b1 : (a0_1 != a1_1) = false := bne_eq_false_iff_eq.mpr c4
   clear c4
   by_cases c5 : a0_2.toList = a1_2.toList
   ·rw [if_pos c5] at H
    have c5b0 : (a0_2.toList == a1_2.toList) = true := beq_iff_eq.mpr c5
    have c5b1 : (a0_2.toList != a1_2.toList) = false := bne_eq_false_iff_eq.mpr c5
    clear c5
    obtain rfl := Option.some.inj H
    go_enter Tryd.func50, Tryd.ntmps50
    go_wp2_with (first | ((with_reducible refine gate_dst (N := 2) rfl ?_); refine bx_ 2 #[.int .i64 a0_0, .int .i64 a0_1, .string a0_2] 29 ?_; intro gb289 hg w6 hbox hb; have BK289 := Aside0.mk (hbox); have GW289 := gw_ hg; have GE289 := gw_ hg; replace HB := bs_ hb; clear hb hbox hg) | ((with_reducible refine gate_dst (N := 3) rfl ?_); refine bx_ 3 #[.int .i64 a1_0, .int .i64 a1_1, .string a1_2] 29 ?_; intro gb290 hg w7 hbox hb; have BK290 := Aside0.mk (hbox); have GW290 := gw_ hg; have GE290 := gw_ hg; have NB289_290 := nl_ hg BK289; have NB290_289 := ng_ hg BK289; replace BK289 := bkb_ BK289 hb; replace HB := bs_ hb; clear hb hbox hg; have hnb8 := NB289_290.out; have hnc8 := NB290_289.out; obtain ⟨hcz9_0, hcz9_1, hcz9_2, hfz9_0, hfz9_1, hfz9_2⟩ := b3_ BK289; obtain ⟨hcz10_0, hcz10_1, hcz10_2, hfz10_0, hfz10_1, hfz10_2⟩ := b3_ BK290))
    go_ret
    exact ⟨er_, bb_⟩
   ·rw [if_neg c5] at H
    have c5b0 : (a0_2.toList == a1_2.toList) = false := beq_eq_false_iff_ne.mpr c5
    have c5b1 : (a0_2.toList != a1_2.toList) = true := bne_iff_ne.mpr c5
    obtain rfl := Option.some.inj H
    go_enter Tryd.func50, Tryd.ntmps50
    go_wp2_with (first | ((with_reducible refine gate_dst (N := 2) rfl ?_); refine bx_ 2 #[.int .i64 a0_0, .int .i64 a0_1, .string a0_2] 29 ?_; intro gb289 hg w11 hbox hb; have BK289 := Aside0.mk (hbox); have GW289 := gw_ hg; have GE289 := gw_ hg; replace HB := bs_ hb; clear hb hbox hg) | ((with_reducible refine gate_dst (N := 3) rfl ?_); refine bx_ 3 #[.int .i64 a1_0, .int .i64 a1_1, .string a1_2] 29 ?_; intro gb290 hg w12 hbox hb; have BK290 := Aside0.mk (hbox); have GW290 := gw_ hg; have GE290 := gw_ hg; have NB289_290 := nl_ hg BK289; have NB290_289 := ng_ hg BK289; replace BK289 := bkb_ BK289 hb; replace HB := bs_ hb; clear hb hbox hg; have hnb13 := NB289_290.out; have hnc13 := NB290_289.out; obtain ⟨hcz14_0, hcz14_1, hcz14_2, hfz14_0, hfz14_1, hfz14_2⟩ := b3_ BK289; obtain ⟨hcz15_0, hcz15_1, hcz15_2, hfz15_0, hfz15_1, hfz15_2⟩ := b3_ BK290))
    go_ret
    exact ⟨er_, bb_⟩
  ·rw [if_neg c4] at H
   have c4b0 : (a0_1 == a1_1) = false := beq_eq_false_iff_ne.mpr c4
   have c4b1 : (a0_1 != a1_1) = true := bne_iff_ne.mpr c4
   obtain rfl := Option.some.inj H
   go_enter Tryd.func50, Tryd.ntmps50
   go_wp2_with (first | ((with_reducible refine gate_dst (N := 2) rfl ?_); refine bx_ 2 #[.int .i64 a0_0, .int .i64 a0_1, .string a0_2] 29 ?_; intro gb289 hg w16 hbox hb; have BK289 := Aside0.mk (hbox); have GW289 := gw_ hg; have GE289 := gw_ hg; replace HB := bs_ hb; clear hb hbox hg) | ((with_reducible refine gate_dst (N := 3) rfl ?_); refine bx_ 3 #[.int .i64 a1_0, .int .i64 a1_1, .string a1_2] 29 ?_; intro gb290 hg w17 hbox hb; have BK290 := Aside0.mk (hbox); have GW290 := gw_ hg; have GE290 := gw_ hg; have NB289_290 := nl_ hg BK289; have NB290_289 := ng_ hg BK289; replace BK289 := bkb_ BK289 hb; replace HB := bs_ hb; clear hb hbox hg; have hnb18 := NB289_290.out; have hnc18 := NB290_289.out; obtain ⟨hcz19_0, hcz19_1, hcz19_2, hfz19_0, hfz19_1, hfz19_2⟩ := b3_ BK289; obtain ⟨hcz20_0, hcz20_1, hcz20_2, hfz20_0, hfz20_1, hfz20_2⟩ := b3_ BK290))
   go_ret
   exact ⟨er_, bb_⟩
 ·rw [if_neg c3] at H
  have c3b0 : (a0_0 == a1_0) = false := beq_eq_false_iff_ne.mpr c3
  have c3b1 : (a0_0 != a1_0) = true := bne_iff_ne.mpr c3
  obtain rfl := Option.some.inj H
  go_enter Tryd.func50, Tryd.ntmps50
  go_wp2_with (first | ((with_reducible refine gate_dst (N := 2) rfl ?_); refine bx_ 2 #[.int .i64 a0_0, .int .i64 a0_1, .string a0_2] 29 ?_; intro gb289 hg w21 hbox hb; have BK289 := Aside0.mk (hbox); have GW289 := gw_ hg; have GE289 := gw_ hg; replace HB := bs_ hb; clear hb hbox hg) | ((with_reducible refine gate_dst (N := 3) rfl ?_); refine bx_ 3 #[.int .i64 a1_0, .int .i64 a1_1, .string a1_2] 29 ?_; intro gb290 hg w22 hbox hb; have BK290 := Aside0.mk (hbox); have GW290 := gw_ hg; have GE290 := gw_ hg; have NB289_290 := nl_ hg BK289; have NB290_289 := ng_ hg BK289; replace BK289 := bkb_ BK289 hb; replace HB := bs_ hb; clear hb hbox hg; have hnb23 := NB289_290.out; have hnc23 := NB290_289.out; obtain ⟨hcz24_0, hcz24_1, hcz24_2, hfz24_0, hfz24_1, hfz24_2⟩ := b3_ BK289; obtain ⟨hcz25_0, hcz25_1, hcz25_2, hfz25_0, hfz25_1, hfz25_2⟩ := b3_ BK290))
  go_ret
  exact ⟨er_, bb_⟩

end Go.Proofs.YthgdmdabdlgliaaDoor.PFnExactPlanText
