-- WRITTEN BY xprint.py, a program of this session over the kit's printer: by nobody's hand
-- PRESSED
import Derived.Test.YthgdmdabdlgliaaDoorPress
import Derived.Test.YthgdmdabdlgliaaDoorPFnExactPlanTextx0
import Derived.Test.YthgdmdabdlgliaaDoorPFnExactPlanTextx4
import Derived.Test.YthgdmdabdlgliaaDoorPFnExactPlanTextx5
namespace Go.Proofs.YthgdmdabdlgliaaDoor.PFnExactPlanText
open Go.RowKit Go.Proofs.YthgdmdabdlgliaaDoorW.PrintWords Go.Proofs.YthgdmdabdlgliaaDoorW.PrintLast Go.Proofs.YthgdmdabdlgliaaDoorW.PrintMore
set_option linter.unusedVariables false
set_option linter.unusedSimpArgs false

/-! ### spec_l04Text: function 82 -/
mutual
def spec_l04Text.j0 : Nat → Int → Bool → Int → ByteArray → Int → Int → Int → Int → ByteArray → ByteArray → List (S32) → List (S32) → Int → List (S70) → Option (ByteArray)
 | 0, _, _, _, _, _, _, _, _, _, _, _, _, _, _ => none
 | k + 1, x1, x14, x155000, x155001, x155002, x155003, x155004, x155005, x155006, x155007, x155008, x155009, x155010, x155011 => if x14 = true then (some (⟨#[]⟩ : ByteArray)) else (spec_l04Text.l0 k x1 (⟨#[]⟩ : ByteArray) 0 x155000 x155001 x155002 x155003 x155004 x155005 x155006 x155007 x155008 x155009 x155010 x155011)
def spec_l04Text.l0 : Nat → Int → ByteArray → Int → Int → ByteArray → Int → Int → Int → Int → ByteArray → ByteArray → List (S32) → List (S32) → Int → List (S70) → Option (ByteArray)
 | 0, _, _, _, _, _, _, _, _, _, _, _, _, _, _, _ => none
 | k + 1, x1, x5, x6, x155000, x155001, x155002, x155003, x155004, x155005, x155006, x155007, x155008, x155009, x155010, x155011 => if x6 < (x155011.length : Int) then (if x6 > 0 then (if x5.size + 2 ≤ 9223372036854775807 then (if 0 ≤ x6 then ((spec_l04Text.f k ((rd_T70 x155011 x6).f0) ((rd_T70 x155011 x6).f1) ((rd_T70 x155011 x6).f2.f0) ((rd_T70 x155011 x6).f2.f1) ((rd_T70 x155011 x6).f2.f2.f0) ((rd_T70 x155011 x6).f2.f2.f1) ((rd_T70 x155011 x6).f2.f2.f2) ((rd_T70 x155011 x6).f2.f3) ((rd_T70 x155011 x6).f2.f4) ((rd_T70 x155011 x6).f3) ((rd_T70 x155011 x6).f4) ((rd_T70 x155011 x6).f5) (wrap64 (x1 - 1))).bind fun t157 => (if (x5 ++ (⟨#[44, 32]⟩ : ByteArray)).size + t157.size ≤ 9223372036854775807 then (spec_l04Text.l0 k x1 ((x5 ++ (⟨#[44, 32]⟩ : ByteArray)) ++ t157) (wrap64 (x6 + 1)) x155000 x155001 x155002 x155003 x155004 x155005 x155006 x155007 x155008 x155009 x155010 x155011) else (none))) else (none)) else (none)) else (if 0 ≤ x6 then ((spec_l04Text.f k ((rd_T70 x155011 x6).f0) ((rd_T70 x155011 x6).f1) ((rd_T70 x155011 x6).f2.f0) ((rd_T70 x155011 x6).f2.f1) ((rd_T70 x155011 x6).f2.f2.f0) ((rd_T70 x155011 x6).f2.f2.f1) ((rd_T70 x155011 x6).f2.f2.f2) ((rd_T70 x155011 x6).f2.f3) ((rd_T70 x155011 x6).f2.f4) ((rd_T70 x155011 x6).f3) ((rd_T70 x155011 x6).f4) ((rd_T70 x155011 x6).f5) (wrap64 (x1 - 1))).bind fun t159 => (if x5.size + t159.size ≤ 9223372036854775807 then (spec_l04Text.l0 k x1 (x5 ++ t159) (wrap64 (x6 + 1)) x155000 x155001 x155002 x155003 x155004 x155005 x155006 x155007 x155008 x155009 x155010 x155011) else (none))) else (none))) else (if x155000 = 0 then (some x155001) else (if x155000 = 1 then ((spec_ExpText.f k x155002 x155003 x155004 x155005 x155006 x155007 x155008).bind fun t160 => (if 7 + t160.size ≤ 9223372036854775807 then (if ((⟨#[102, 105, 108, 116, 101, 114, 40]⟩ : ByteArray) ++ t160).size + 2 ≤ 9223372036854775807 then (if (((⟨#[102, 105, 108, 116, 101, 114, 40]⟩ : ByteArray) ++ t160) ++ (⟨#[44, 32]⟩ : ByteArray)).size + x5.size ≤ 9223372036854775807 then (if ((((⟨#[102, 105, 108, 116, 101, 114, 40]⟩ : ByteArray) ++ t160) ++ (⟨#[44, 32]⟩ : ByteArray)) ++ x5).size + 1 ≤ 9223372036854775807 then (some (((((⟨#[102, 105, 108, 116, 101, 114, 40]⟩ : ByteArray) ++ t160) ++ (⟨#[44, 32]⟩ : ByteArray)) ++ x5) ++ (⟨#[41]⟩ : ByteArray))) else (none)) else (none)) else (none)) else (none))) else (if x155000 = 2 then ((spec_l04Exps.f k x155009).bind fun t161 => (if 8 + t161.size ≤ 9223372036854775807 then (if ((⟨#[112, 114, 111, 106, 101, 99, 116, 40]⟩ : ByteArray) ++ t161).size + 2 ≤ 9223372036854775807 then (if (((⟨#[112, 114, 111, 106, 101, 99, 116, 40]⟩ : ByteArray) ++ t161) ++ (⟨#[44, 32]⟩ : ByteArray)).size + x5.size ≤ 9223372036854775807 then (if ((((⟨#[112, 114, 111, 106, 101, 99, 116, 40]⟩ : ByteArray) ++ t161) ++ (⟨#[44, 32]⟩ : ByteArray)) ++ x5).size + 1 ≤ 9223372036854775807 then (some (((((⟨#[112, 114, 111, 106, 101, 99, 116, 40]⟩ : ByteArray) ++ t161) ++ (⟨#[44, 32]⟩ : ByteArray)) ++ x5) ++ (⟨#[41]⟩ : ByteArray))) else (none)) else (none)) else (none)) else (none))) else (if x155000 = 3 then ((spec_ExpText.f k x155002 x155003 x155004 x155005 x155006 x155007 x155008).bind fun t162 => (if 5 + t162.size ≤ 9223372036854775807 then (if ((⟨#[106, 111, 105, 110, 40]⟩ : ByteArray) ++ t162).size + 2 ≤ 9223372036854775807 then (if (((⟨#[106, 111, 105, 110, 40]⟩ : ByteArray) ++ t162) ++ (⟨#[44, 32]⟩ : ByteArray)).size + x5.size ≤ 9223372036854775807 then (if ((((⟨#[106, 111, 105, 110, 40]⟩ : ByteArray) ++ t162) ++ (⟨#[44, 32]⟩ : ByteArray)) ++ x5).size + 1 ≤ 9223372036854775807 then (some (((((⟨#[106, 111, 105, 110, 40]⟩ : ByteArray) ++ t162) ++ (⟨#[44, 32]⟩ : ByteArray)) ++ x5) ++ (⟨#[41]⟩ : ByteArray))) else (none)) else (none)) else (none)) else (none))) else (if x155000 = 4 then (if 6 + x5.size ≤ 9223372036854775807 then (if ((⟨#[117, 110, 105, 111, 110, 40]⟩ : ByteArray) ++ x5).size + 1 ≤ 9223372036854775807 then (some (((⟨#[117, 110, 105, 111, 110, 40]⟩ : ByteArray) ++ x5) ++ (⟨#[41]⟩ : ByteArray))) else (none)) else (none)) else (if x155000 = 5 then (if 9 + x5.size ≤ 9223372036854775807 then (if ((⟨#[100, 105, 115, 116, 105, 110, 99, 116, 40]⟩ : ByteArray) ++ x5).size + 1 ≤ 9223372036854775807 then (some (((⟨#[100, 105, 115, 116, 105, 110, 99, 116, 40]⟩ : ByteArray) ++ x5) ++ (⟨#[41]⟩ : ByteArray))) else (none)) else (none)) else ((spec_DecText.f k x155010).bind fun t163 => (if 6 + t163.size ≤ 9223372036854775807 then (if ((⟨#[103, 114, 111, 117, 112, 40]⟩ : ByteArray) ++ t163).size + 2 ≤ 9223372036854775807 then ((spec_l04Exps.f k x155009).bind fun t164 => (if (((⟨#[103, 114, 111, 117, 112, 40]⟩ : ByteArray) ++ t163) ++ (⟨#[44, 32]⟩ : ByteArray)).size + t164.size ≤ 9223372036854775807 then (if ((((⟨#[103, 114, 111, 117, 112, 40]⟩ : ByteArray) ++ t163) ++ (⟨#[44, 32]⟩ : ByteArray)) ++ t164).size + 2 ≤ 9223372036854775807 then (if (((((⟨#[103, 114, 111, 117, 112, 40]⟩ : ByteArray) ++ t163) ++ (⟨#[44, 32]⟩ : ByteArray)) ++ t164) ++ (⟨#[44, 32]⟩ : ByteArray)).size + x5.size ≤ 9223372036854775807 then (if ((((((⟨#[103, 114, 111, 117, 112, 40]⟩ : ByteArray) ++ t163) ++ (⟨#[44, 32]⟩ : ByteArray)) ++ t164) ++ (⟨#[44, 32]⟩ : ByteArray)) ++ x5).size + 1 ≤ 9223372036854775807 then (some (((((((⟨#[103, 114, 111, 117, 112, 40]⟩ : ByteArray) ++ t163) ++ (⟨#[44, 32]⟩ : ByteArray)) ++ t164) ++ (⟨#[44, 32]⟩ : ByteArray)) ++ x5) ++ (⟨#[41]⟩ : ByteArray))) else (none)) else (none)) else (none)) else (none))) else (none)) else (none)))))))))
def spec_l04Text.f : Nat → Int → ByteArray → Int → Int → Int → Int → ByteArray → ByteArray → List (S32) → List (S32) → Int → List (S70) → Int → Option (ByteArray)
 | 0, _, _, _, _, _, _, _, _, _, _, _, _, _ => none
 | k + 1, a0_0, a0_1, a0_2, a0_3, a0_4, a0_5, a0_6, a0_7, l0_8, l0_9, a0_10, l0_11, a1 => if a1 < 0 then (spec_l04Text.j0 k a1 true a0_0 a0_1 a0_2 a0_3 a0_4 a0_5 a0_6 a0_7 l0_8 l0_9 a0_10 l0_11) else ((spec_l04Kids.f a0_0).bind fun t155 => (spec_l04Text.j0 k a1 (decide (t155 < 0)) a0_0 a0_1 a0_2 a0_3 a0_4 a0_5 a0_6 a0_7 l0_8 l0_9 a0_10 l0_11))
end
def spec_l04Text.T23 : Bool × List (List Nat × List Nat) := (true, [([], []), ([0], [0]), ([1], [1]), ([2], [2]), ([3], [3]), ([], []), ([5], [5]), ([6, 2], [6]), ([4, 7], [4, 7]), ([8], [8]), ([], []), ([9, 10], [9, 10]), ([11], [11]), ([12, 7, 0, 1, 2, 3, 4, 5, 6, 7, 8, 9, 10, 11, 12], [12])])
def spec_l04Text.B23 : List Nat := [0, 1, 3, 7, 15, 0, 32, 103, 255, 511, 0, 2047, 4095, 8191]
theorem spec_l04Text.tab23 : rtab .any (opsOf Tryd.f82 23) = spec_l04Text.T23 := by kernel_rfl
theorem spec_l04Text.bits23 : waitsOk spec_l04Text.T23.2 spec_l04Text.B23 = true := by kernel_rfl
set_option maxHeartbeats 8000000 in
set_option maxRecDepth 100000 in
theorem spec_l04Text.calls (k : Nat) : ∀ (a0_0 : Int) (a0_1 : ByteArray) (a0_2 : Int) (a0_3 : Int) (a0_4 : Int) (a0_5 : Int) (a0_6 : ByteArray) (a0_7 : ByteArray) (A0_8 : Option Addr) (c0_8 : Nat) (l0_8 : List (S32)) (A0_9 : Option Addr) (c0_9 : Nat) (l0_9 : List (S32)) (a0_10 : Int) (A0_11 : Option Addr) (c0_11 : Nat) (l0_11 : List (S70)) (a1 : Int) (r : ByteArray) (w : World) (hr0_8 : Kd.C k32 w A0_8 l0_8.length l0_8) (hc0_8 : l0_8.length ≤ c0_8) (hr0_9 : Kd.C k32 w A0_9 l0_9.length l0_9) (hc0_9 : l0_9.length ≤ c0_9) (hr0_11 : Kd.C k70 w A0_11 l0_11.length l0_11) (hc0_11 : l0_11.length ≤ c0_11) (h : spec_l04Text.f k a0_0 a0_1 a0_2 a0_3 a0_4 a0_5 a0_6 a0_7 l0_8 l0_9 a0_10 l0_11 a1 = some r),
  Calls Tryd.prog 82 #[.agg #[.int .i64 a0_0, .string a0_1, .int .i64 a0_2, .int .i64 a0_3, .int .i64 a0_4, .int .i64 a0_5, .string a0_6, .string a0_7, .slice A0_8 l0_8.length c0_8, .slice A0_9 l0_9.length c0_9, .int .i64 a0_10, .slice A0_11 l0_11.length c0_11], .int .i64 a1] w fun e w' => e = .returned (.string r) ∧ Below w.heap.size w w' := by
 induction k using Nat.strongRecOn with
 | _ k ih =>
 intro a0_0 a0_1 a0_2 a0_3 a0_4 a0_5 a0_6 a0_7 A0_8 c0_8 l0_8 A0_9 c0_9 l0_9 a0_10 A0_11 c0_11 l0_11 a1 r w hr0_8 hc0_8 hr0_9 hc0_9 hr0_11 hc0_11 h
 cases k with
 | zero => exact absurd h (by simp [spec_l04Text.f])
 | succ k =>
 simp only [spec_l04Text.f] at h
 have hu70 := Tryd.underlying70
 have hu32 := Tryd.underlying32
 have HR0_8 := Aside0.mk hr0_8
 have HC0_8 := Aside0.mk hc0_8
 clear hr0_8 hc0_8
 have HR0_9 := Aside0.mk hr0_9
 have HC0_9 := Aside0.mk hc0_9
 clear hr0_9 hc0_9
 have HR0_11 := Aside0.mk hr0_11
 have HC0_11 := Aside0.mk hc0_11
 clear hr0_11 hc0_11
 have HB := Aside0.mk (Below.refl w.heap.size w)
 have H : (if a1 < 0 then (spec_l04Text.j0 k a1 true a0_0 a0_1 a0_2 a0_3 a0_4 a0_5 a0_6 a0_7 l0_8 l0_9 a0_10 l0_11) else ((spec_l04Kids.f a0_0).bind fun t155 => (spec_l04Text.j0 k a1 (decide (t155 < 0)) a0_0 a0_1 a0_2 a0_3 a0_4 a0_5 a0_6 a0_7 l0_8 l0_9 a0_10 l0_11))) = some r := h
 clear h
 have HC3 := Aside0.mk H
 clear H
 go_enter Tryd.func82, Tryd.ntmps82
 go_upto_region 1 with (first | ((with_reducible refine gate_dst (N := 2) rfl ?_); refine bx_ 2 #[.int .i64 a0_0, .string a0_1, .int .i64 a0_2, .int .i64 a0_3, .int .i64 a0_4, .int .i64 a0_5, .string a0_6, .string a0_7, .slice A0_8 l0_8.length c0_8, .slice A0_9 l0_9.length c0_9, .int .i64 a0_10, .slice A0_11 l0_11.length c0_11] 70 ?_; intro gb154 hg w4 hbox hb; have BK154 := Aside0.mk (hbox); have GW154 := gw_ hg; have GE154 := gw_ hg; replace HB := bs_ hb; clear hb hbox hg))
 (try simp only [Act.put, List.setIfInBounds_toArray, List.set_cons_zero, List.set_cons_succ])
 go_cut [14] (fun v14 wc => ∃ (kq : Nat) (x14_2 : Bool), v14 = .bool x14_2 ∧ Aside0 (spec_l04Text.j0 kq a1 x14_2 a0_0 a0_1 a0_2 a0_3 a0_4 a0_5 a0_6 a0_7 l0_8 l0_9 a0_10 l0_11 = some r) ∧ Aside0 (kq ≤ k) ∧ Aside0 (wc.heap[gb154]? = some (.cells #[.int .i64 a0_0, .string a0_1, .int .i64 a0_2, .int .i64 a0_3, .int .i64 a0_4, .int .i64 a0_5, .string a0_6, .string a0_7, (.slice A0_8 l0_8.length c0_8), (.slice A0_9 l0_9.length c0_9), .int .i64 a0_10, (.slice A0_11 l0_11.length c0_11)] 70 (0, 0))) ∧ Aside0 (Below w.heap.size w wc))
 case first =>
  have H := HC3.out
  clear HC3
  by_cases c5 : a1 < 0
  ·rw [if_pos c5] at H
   have c5b0 : decide (a1 < 0) = true := decide_eq_true c5
   clear c5
   (first | rw [c5b0] | (simp only [i64_w, i32_w]; rw [c5b0]) | skip)
   have H' := Aside0.mk H
   clear H
   go_wp2
   go_meet
   case rel => exact ⟨_, (true), rs_, H', ⟨by first | omega | exact Nat.le_refl _⟩, ⟨bkx_ BK154.out⟩, ⟨bb_⟩⟩
  ·rw [if_neg c5] at H
   have c5b0 : decide (a1 < 0) = false := decide_eq_false c5
   clear c5
   (first | rw [c5b0] | (simp only [i64_w, i32_w]; rw [c5b0]) | skip)
   replace H := Option.bind_eq_some_iff.mp H
   obtain ⟨t155, A60, H⟩ := H
   replace H : (spec_l04Text.j0 k a1 (decide (t155 < 0)) a0_0 a0_1 a0_2 a0_3 a0_4 a0_5 a0_6 a0_7 l0_8 l0_9 a0_10 l0_11) = some r := H
   have A6 := Aside0.mk A60
   clear A60
   have H' := Aside0.mk H
   clear H
   obtain ⟨hcz7_0, hcz7_1, hcz7_2, hcz7_3, hcz7_4, hcz7_5, hcz7_6, hcz7_7, hcz7_8, hcz7_9, hcz7_10, hcz7_11, hfz7_0, hfz7_1, hfz7_2, hfz7_3, hfz7_4, hfz7_5, hfz7_6, hfz7_7, hfz7_8, hfz7_9, hfz7_10, hfz7_11⟩ := b12_ BK154
   go_wp2_with (first | (go_at_call 108; (with_reducible refine (spec_l04Kids.calls a0_0 t155 _ A6.out).mono ?_); rintro e w8 ⟨rfl, hb⟩; have n0_ := bkb_ BK154 hb; have n1_ := bs_ hb; clear BK154; clear HB; have BK154 := n0_; have HB := n1_; clear n0_ n1_; (try clear hb); (try clear hb2); (try clear hk); (try clear hi)))
   go_meet
   case rel => exact ⟨_, (decide (t155 < 0)), rs_, H', ⟨by first | omega | exact Nat.le_refl _⟩, ⟨bkx_ BK154.out⟩, ⟨bb_⟩⟩
 case rest =>
  clear HC3
  try clear p2
  try clear c5
  try clear c5b0
  try clear c8
  try clear hcz7_0
  try clear hcz7_1
  try clear hcz7_10
  try clear hcz7_11
  try clear hcz7_2
  try clear hcz7_3
  try clear hcz7_4
  try clear hcz7_5
  try clear hcz7_6
  try clear hcz7_7
  try clear hcz7_8
  try clear hcz7_9
  try clear hfz7_0
  try clear hfz7_1
  try clear hfz7_10
  try clear hfz7_11
  try clear hfz7_2
  try clear hfz7_3
  try clear hfz7_4
  try clear hfz7_5
  try clear hfz7_6
  try clear hfz7_7
  try clear hfz7_8
  try clear hfz7_9
  obtain ⟨kq, x14_2, rfl, HA, HJ2, BK154, HB⟩ := hcut
  cases kq with
  | zero => exact absurd HA.out (by simp [spec_l04Text.j0])
  | succ kj2 =>
   have H := HA.out
   clear HA
   simp only [spec_l04Text.j0] at H
   by_cases c9 : x14_2 = true
   ·subst c9
    have H1 : (some (⟨#[]⟩ : ByteArray)) = some r := by rw [if_pos rfl] at H; exact H
    clear H
    have H := H1
    clear H1
    obtain rfl := Option.some.inj H
    go_wp2
    go_ret
    exact ⟨er_, bb_⟩
   ·replace c9 := Bool.eq_false_iff.mpr c9
    subst c9
    have H1 : (spec_l04Text.l0 kj2 a1 (⟨#[]⟩ : ByteArray) 0 a0_0 a0_1 a0_2 a0_3 a0_4 a0_5 a0_6 a0_7 l0_8 l0_9 a0_10 l0_11) = some r := by rw [if_neg (show ¬ (false = true) by decide)] at H; exact H
    clear H
    have H := H1
    clear H1
    have H' := Aside0.mk H
    clear H
    go_wp2
    go_loopg [5, 6] kj2 (fun kq v5 v6 w' => ∃ (x5_2 : ByteArray) (x6_2 : Int), v5 = .string x5_2 ∧ v6 = .int .i64 x6_2 ∧ Aside0 (spec_l04Text.l0 kq a1 x5_2 x6_2 a0_0 a0_1 a0_2 a0_3 a0_4 a0_5 a0_6 a0_7 l0_8 l0_9 a0_10 l0_11 = some r) ∧ Aside0 (kq ≤ kj2) ∧ Aside0 (w'.heap[gb154]? = some (.cells #[.int .i64 a0_0, .string a0_1, .int .i64 a0_2, .int .i64 a0_3, .int .i64 a0_4, .int .i64 a0_5, .string a0_6, .string a0_7, (.slice A0_8 l0_8.length c0_8), (.slice A0_9 l0_9.length c0_9), .int .i64 a0_10, (.slice A0_11 l0_11.length c0_11)] 70 (0, 0))) ∧ Aside0 (Below w.heap.size w w'))
    case atStart => exact ⟨((⟨#[]⟩ : ByteArray)), (0), rs_, rs_, H', ⟨Nat.le_refl _⟩, ⟨bkx_ BK154.out⟩, ⟨bb_⟩⟩
    case round =>
     clear H'
     try clear p2
     try clear c5
     try clear c5b0
     try clear c8
     try clear c9
     try clear hcz7_0
     try clear hcz7_1
     try clear hcz7_10
     try clear hcz7_11
     try clear hcz7_2
     try clear hcz7_3
     try clear hcz7_4
     try clear hcz7_5
     try clear hcz7_6
     try clear hcz7_7
     try clear hcz7_8
     try clear hcz7_9
     try clear hfz7_0
     try clear hfz7_1
     try clear hfz7_10
     try clear hfz7_11
     try clear hfz7_2
     try clear hfz7_3
     try clear hfz7_4
     try clear hfz7_5
     try clear hfz7_6
     try clear hfz7_7
     try clear hfz7_8
     try clear hfz7_9
     try clear p2
     obtain ⟨x5_2, x6_2, rfl, rfl, HA, HK2, BK154, HB⟩ := hrel
     cases gk with
     | zero => exact absurd HA.out (by simp [spec_l04Text.l0])
     | succ k2 =>
      have H := HA.out
      clear HA
      simp only [spec_l04Text.l0] at H
      by_cases c10 : x6_2 < (l0_11.length : Int)
      ·rw [if_pos c10] at H
       have c10b0 : decide (x6_2 < (l0_11.length : Int)) = true := decide_eq_true c10
       clear c10
       by_cases c11 : x6_2 > 0
       ·rw [if_pos c11] at H
        have c11b0 : decide (0 < x6_2) = true := decide_eq_true c11
        clear c11
        by_cases c12 : x5_2.size + 2 ≤ 9223372036854775807
        ·rw [if_pos c12] at H
         have c12b0 := eq_true c12
         have c12b1 : decide (x5_2.size + 2 ≤ 9223372036854775807) = true := decide_eq_true c12
         try have c12b2 : (9223372036854775807 < x5_2.size + 2) = False := eq_false (Nat.not_lt.2 c12)
         by_cases c13 : 0 ≤ x6_2
         ·rw [if_pos c13] at H
          have c13b0 : decide (0 ≤ x6_2) = true := decide_eq_true c13
          clear c13
          replace H := Option.bind_eq_some_iff.mp H
          obtain ⟨t157, A140, H⟩ := H
          replace H : (if (x5_2 ++ (⟨#[44, 32]⟩ : ByteArray)).size + t157.size ≤ 9223372036854775807 then (spec_l04Text.l0 k2 a1 ((x5_2 ++ (⟨#[44, 32]⟩ : ByteArray)) ++ t157) (wrap64 (x6_2 + 1)) a0_0 a0_1 a0_2 a0_3 a0_4 a0_5 a0_6 a0_7 l0_8 l0_9 a0_10 l0_11) else (none)) = some r := H
          have A14 := Aside0.mk A140
          clear A140
          by_cases c15 : (x5_2 ++ (⟨#[44, 32]⟩ : ByteArray)).size + t157.size ≤ 9223372036854775807
          ·rw [if_pos c15] at H
           have c15b0 := eq_true c15
           have c15b1 : decide ((x5_2 ++ (⟨#[44, 32]⟩ : ByteArray)).size + t157.size ≤ 9223372036854775807) = true := decide_eq_true c15
           try have c15b2 : (9223372036854775807 < (x5_2 ++ (⟨#[44, 32]⟩ : ByteArray)).size + t157.size) = False := eq_false (Nat.not_lt.2 c15)
           (try (have c15b0z := c15b0; simp only [ByteArray.size_append] at c15b0z))
           (try (have c15b1z := c15b1; simp only [ByteArray.size_append] at c15b1z))
           (try (have c15b2z := c15b2; simp only [ByteArray.size_append] at c15b2z))
           (try (have c15b2y : (9223372036854775807 < x5_2.size + 2 + t157.size) = False := by (apply eq_false; have hq_ := c15; simp only [ByteArray.size_append, ByteArray.size_extract] at hq_; have hl0_ : (⟨#[44, 32]⟩ : ByteArray).size = 2 := rfl; omega)))
           have H' := Aside0.mk H
           clear H
           obtain ⟨hcz16_0, hcz16_1, hcz16_2, hcz16_3, hcz16_4, hcz16_5, hcz16_6, hcz16_7, hcz16_8, hcz16_9, hcz16_10, hcz16_11, hfz16_0, hfz16_1, hfz16_2, hfz16_3, hfz16_4, hfz16_5, hfz16_6, hfz16_7, hfz16_8, hfz16_9, hfz16_10, hfz16_11⟩ := b12_ BK154
           have p156 : 0 ≤ (x6_2 : Int) := of_decide_eq_true (by first | (with_reducible assumption) | assumption)
           have q156 : x6_2 < (l0_11.length : Int) := of_decide_eq_true (by first | (with_reducible assumption) | assumption)
           obtain ⟨ad156, A156_8, c156_8, A156_9, c156_9, A156_11, c156_11, e156, hx156_0, hx156_1, hx156_2, hx156_3, hx156_4, hx156_5, hx156_6, hx156_7, hx156_8, hx156_9, hx156_10, hx156_11, hl156_8, hi156_8, hl156_9, hi156_9, hl156_11, hi156_11⟩ := at_T70 HR0_11.out x6_2 p156 q156
           cases e156
           replace hx156_0 := hb_ HB hx156_0
           replace hx156_1 := hb_ HB hx156_1
           replace hx156_2 := hb_ HB hx156_2
           replace hx156_3 := hb_ HB hx156_3
           replace hx156_4 := hb_ HB hx156_4
           replace hx156_5 := hb_ HB hx156_5
           replace hx156_6 := hb_ HB hx156_6
           replace hx156_7 := hb_ HB hx156_7
           replace hx156_8 := hb_ HB hx156_8
           replace hx156_9 := hb_ HB hx156_9
           replace hx156_10 := hb_ HB hx156_10
           replace hx156_11 := hb_ HB hx156_11
           have HR156_8 := Aside0.mk hi156_8
           have HC156_8 := Aside0.mk hl156_8
           clear hi156_8 hl156_8
           have HR156_9 := Aside0.mk hi156_9
           have HC156_9 := Aside0.mk hl156_9
           clear hi156_9 hl156_9
           have HR156_11 := Aside0.mk hi156_11
           have HC156_11 := Aside0.mk hl156_11
           clear hi156_11 hl156_11
           replace p156 := eq_true p156
           replace q156 := eq_true q156
           go_wp2_with (first | ((with_reducible refine gate_callee (f := 82) rfl ?_); refine gsL_ (some 34) Tryd.func82 #[.agg #[.int .i64 ((rd_T70 l0_11 x6_2).f0), .string ((rd_T70 l0_11 x6_2).f1), .int .i64 ((rd_T70 l0_11 x6_2).f2.f0), .int .i64 ((rd_T70 l0_11 x6_2).f2.f1), .int .i64 ((rd_T70 l0_11 x6_2).f2.f2.f0), .int .i64 ((rd_T70 l0_11 x6_2).f2.f2.f1), .string ((rd_T70 l0_11 x6_2).f2.f2.f2), .string ((rd_T70 l0_11 x6_2).f2.f3), .slice A156_8 ((rd_T70 l0_11 x6_2).f2.f4).length c156_8, .slice A156_9 ((rd_T70 l0_11 x6_2).f3).length c156_9, .int .i64 ((rd_T70 l0_11 x6_2).f4), .slice A156_11 ((rd_T70 l0_11 x6_2).f5).length c156_11], .int .i64 (wrap64 (a1 - 1))] ?_; (with_reducible refine (ih k2 (by have := HJ2.out; have := HK2.out; omega) ((rd_T70 l0_11 x6_2).f0) ((rd_T70 l0_11 x6_2).f1) ((rd_T70 l0_11 x6_2).f2.f0) ((rd_T70 l0_11 x6_2).f2.f1) ((rd_T70 l0_11 x6_2).f2.f2.f0) ((rd_T70 l0_11 x6_2).f2.f2.f1) ((rd_T70 l0_11 x6_2).f2.f2.f2) ((rd_T70 l0_11 x6_2).f2.f3) _ _ ((rd_T70 l0_11 x6_2).f2.f4) _ _ ((rd_T70 l0_11 x6_2).f3) ((rd_T70 l0_11 x6_2).f4) _ _ ((rd_T70 l0_11 x6_2).f5) (wrap64 (a1 - 1)) t157 _ ?side1 ?side2 ?side3 ?side4 ?side5 ?side6 A14.out).mono ?_); (case side1 => exact ck_ (Kd.C_below HR156_8.out HB.out)); (case side2 => exact HC156_8.out); (case side3 => exact ck_ (Kd.C_below HR156_9.out HB.out)); (case side4 => exact HC156_9.out); (case side5 => exact ck_ (Kd.C_below HR156_11.out HB.out)); (case side6 => exact HC156_11.out); rintro e w17 ⟨rfl, hb⟩; refine ⟨_, rfl, ?_⟩; replace BK154 := bkb_ BK154 hb; replace HB := bs_ hb; (try clear hb); (try clear hb2); (try clear hk); (try clear hi)))
           go_roundg k2
           case measure => have := HJ2.out; have := HK2.out; omega
           case rel => exact ⟨((x5_2 ++ (⟨#[44, 32]⟩ : ByteArray)) ++ t157), (wrap64 (x6_2 + 1)), rs_, rs_, H', ⟨by have := HJ2.out; have := HK2.out; omega⟩, ⟨bkx_ BK154.out⟩, ⟨bb_⟩⟩
          ·rw [if_neg c15] at H
           exact absurd H (by simp)
         ·rw [if_neg c13] at H
          exact absurd H (by simp)
        ·rw [if_neg c12] at H
         exact absurd H (by simp)
       ·rw [if_neg c11] at H
        have c11b0 : decide (0 < x6_2) = false := decide_eq_false c11
        clear c11
        by_cases c18 : 0 ≤ x6_2
        ·rw [if_pos c18] at H
         have c18b0 : decide (0 ≤ x6_2) = true := decide_eq_true c18
         clear c18
         replace H := Option.bind_eq_some_iff.mp H
         obtain ⟨t159, A190, H⟩ := H
         replace H : (if x5_2.size + t159.size ≤ 9223372036854775807 then (spec_l04Text.l0 k2 a1 (x5_2 ++ t159) (wrap64 (x6_2 + 1)) a0_0 a0_1 a0_2 a0_3 a0_4 a0_5 a0_6 a0_7 l0_8 l0_9 a0_10 l0_11) else (none)) = some r := H
         have A19 := Aside0.mk A190
         clear A190
         by_cases c20 : x5_2.size + t159.size ≤ 9223372036854775807
         ·rw [if_pos c20] at H
          have c20b0 := eq_true c20
          have c20b1 : decide (x5_2.size + t159.size ≤ 9223372036854775807) = true := decide_eq_true c20
          try have c20b2 : (9223372036854775807 < x5_2.size + t159.size) = False := eq_false (Nat.not_lt.2 c20)
          have H' := Aside0.mk H
          clear H
          obtain ⟨hcz21_0, hcz21_1, hcz21_2, hcz21_3, hcz21_4, hcz21_5, hcz21_6, hcz21_7, hcz21_8, hcz21_9, hcz21_10, hcz21_11, hfz21_0, hfz21_1, hfz21_2, hfz21_3, hfz21_4, hfz21_5, hfz21_6, hfz21_7, hfz21_8, hfz21_9, hfz21_10, hfz21_11⟩ := b12_ BK154
          have p158 : 0 ≤ (x6_2 : Int) := of_decide_eq_true (by first | (with_reducible assumption) | assumption)
          have q158 : x6_2 < (l0_11.length : Int) := of_decide_eq_true (by first | (with_reducible assumption) | assumption)
          obtain ⟨ad158, A158_8, c158_8, A158_9, c158_9, A158_11, c158_11, e158, hx158_0, hx158_1, hx158_2, hx158_3, hx158_4, hx158_5, hx158_6, hx158_7, hx158_8, hx158_9, hx158_10, hx158_11, hl158_8, hi158_8, hl158_9, hi158_9, hl158_11, hi158_11⟩ := at_T70 HR0_11.out x6_2 p158 q158
          cases e158
          replace hx158_0 := hb_ HB hx158_0
          replace hx158_1 := hb_ HB hx158_1
          replace hx158_2 := hb_ HB hx158_2
          replace hx158_3 := hb_ HB hx158_3
          replace hx158_4 := hb_ HB hx158_4
          replace hx158_5 := hb_ HB hx158_5
          replace hx158_6 := hb_ HB hx158_6
          replace hx158_7 := hb_ HB hx158_7
          replace hx158_8 := hb_ HB hx158_8
          replace hx158_9 := hb_ HB hx158_9
          replace hx158_10 := hb_ HB hx158_10
          replace hx158_11 := hb_ HB hx158_11
          have HR158_8 := Aside0.mk hi158_8
          have HC158_8 := Aside0.mk hl158_8
          clear hi158_8 hl158_8
          have HR158_9 := Aside0.mk hi158_9
          have HC158_9 := Aside0.mk hl158_9
          clear hi158_9 hl158_9
          have HR158_11 := Aside0.mk hi158_11
          have HC158_11 := Aside0.mk hl158_11
          clear hi158_11 hl158_11
          replace p158 := eq_true p158
          replace q158 := eq_true q158
          go_wp2_with (first | ((with_reducible refine gate_callee (f := 82) rfl ?_); refine gsL_ (some 34) Tryd.func82 #[.agg #[.int .i64 ((rd_T70 l0_11 x6_2).f0), .string ((rd_T70 l0_11 x6_2).f1), .int .i64 ((rd_T70 l0_11 x6_2).f2.f0), .int .i64 ((rd_T70 l0_11 x6_2).f2.f1), .int .i64 ((rd_T70 l0_11 x6_2).f2.f2.f0), .int .i64 ((rd_T70 l0_11 x6_2).f2.f2.f1), .string ((rd_T70 l0_11 x6_2).f2.f2.f2), .string ((rd_T70 l0_11 x6_2).f2.f3), .slice A158_8 ((rd_T70 l0_11 x6_2).f2.f4).length c158_8, .slice A158_9 ((rd_T70 l0_11 x6_2).f3).length c158_9, .int .i64 ((rd_T70 l0_11 x6_2).f4), .slice A158_11 ((rd_T70 l0_11 x6_2).f5).length c158_11], .int .i64 (wrap64 (a1 - 1))] ?_; (with_reducible refine (ih k2 (by have := HJ2.out; have := HK2.out; omega) ((rd_T70 l0_11 x6_2).f0) ((rd_T70 l0_11 x6_2).f1) ((rd_T70 l0_11 x6_2).f2.f0) ((rd_T70 l0_11 x6_2).f2.f1) ((rd_T70 l0_11 x6_2).f2.f2.f0) ((rd_T70 l0_11 x6_2).f2.f2.f1) ((rd_T70 l0_11 x6_2).f2.f2.f2) ((rd_T70 l0_11 x6_2).f2.f3) _ _ ((rd_T70 l0_11 x6_2).f2.f4) _ _ ((rd_T70 l0_11 x6_2).f3) ((rd_T70 l0_11 x6_2).f4) _ _ ((rd_T70 l0_11 x6_2).f5) (wrap64 (a1 - 1)) t159 _ ?side1 ?side2 ?side3 ?side4 ?side5 ?side6 A19.out).mono ?_); (case side1 => exact ck_ (Kd.C_below HR158_8.out HB.out)); (case side2 => exact HC158_8.out); (case side3 => exact ck_ (Kd.C_below HR158_9.out HB.out)); (case side4 => exact HC158_9.out); (case side5 => exact ck_ (Kd.C_below HR158_11.out HB.out)); (case side6 => exact HC158_11.out); rintro e w22 ⟨rfl, hb⟩; refine ⟨_, rfl, ?_⟩; replace BK154 := bkb_ BK154 hb; replace HB := bs_ hb; (try clear hb); (try clear hb2); (try clear hk); (try clear hi)))
          go_roundg k2
          case measure => have := HJ2.out; have := HK2.out; omega
          case rel => exact ⟨(x5_2 ++ t159), (wrap64 (x6_2 + 1)), rs_, rs_, H', ⟨by have := HJ2.out; have := HK2.out; omega⟩, ⟨bkx_ BK154.out⟩, ⟨bb_⟩⟩
         ·rw [if_neg c20] at H
          exact absurd H (by simp)
        ·rw [if_neg c18] at H
         exact absurd H (by simp)
      ·rw [if_neg c10] at H
       have c10b0 : decide (x6_2 < (l0_11.length : Int)) = false := decide_eq_false c10
       clear c10
       by_cases c23 : a0_0 = 0
       ·rw [if_pos c23] at H
        have c23b0 : (a0_0 == 0) = true := beq_iff_eq.mpr c23
        have c23b1 : (a0_0 != 0) = false := bne_eq_false_iff_eq.mpr c23
        clear c23
        obtain rfl := Option.some.inj H
        obtain ⟨hcz24_0, hcz24_1, hcz24_2, hcz24_3, hcz24_4, hcz24_5, hcz24_6, hcz24_7, hcz24_8, hcz24_9, hcz24_10, hcz24_11, hfz24_0, hfz24_1, hfz24_2, hfz24_3, hfz24_4, hfz24_5, hfz24_6, hfz24_7, hfz24_8, hfz24_9, hfz24_10, hfz24_11⟩ := b12_ BK154
        go_wp2
        go_ret
        exact ⟨er_, bb_⟩
       ·rw [if_neg c23] at H
        have c23b0 : (a0_0 == 0) = false := beq_eq_false_iff_ne.mpr c23
        have c23b1 : (a0_0 != 0) = true := bne_iff_ne.mpr c23
        by_cases c25 : a0_0 = 1
        ·rw [if_pos c25] at H
         have c25b0 : (a0_0 == 1) = true := beq_iff_eq.mpr c25
         have c25b1 : (a0_0 != 1) = false := bne_eq_false_iff_eq.mpr c25
         clear c25
         replace H := Option.bind_eq_some_iff.mp H
         obtain ⟨t160, A260, H⟩ := H
         replace H : (if 7 + t160.size ≤ 9223372036854775807 then (if ((⟨#[102, 105, 108, 116, 101, 114, 40]⟩ : ByteArray) ++ t160).size + 2 ≤ 9223372036854775807 then (if (((⟨#[102, 105, 108, 116, 101, 114, 40]⟩ : ByteArray) ++ t160) ++ (⟨#[44, 32]⟩ : ByteArray)).size + x5_2.size ≤ 9223372036854775807 then (if ((((⟨#[102, 105, 108, 116, 101, 114, 40]⟩ : ByteArray) ++ t160) ++ (⟨#[44, 32]⟩ : ByteArray)) ++ x5_2).size + 1 ≤ 9223372036854775807 then (some (((((⟨#[102, 105, 108, 116, 101, 114, 40]⟩ : ByteArray) ++ t160) ++ (⟨#[44, 32]⟩ : ByteArray)) ++ x5_2) ++ (⟨#[41]⟩ : ByteArray))) else (none)) else (none)) else (none)) else (none)) = some r := H
         have A26 := Aside0.mk A260
         clear A260
         by_cases c27 : 7 + t160.size ≤ 9223372036854775807
         ·rw [if_pos c27] at H
          have c27b0 := eq_true c27
          have c27b1 : decide (7 + t160.size ≤ 9223372036854775807) = true := decide_eq_true c27
          try have c27b2 : (9223372036854775807 < 7 + t160.size) = False := eq_false (Nat.not_lt.2 c27)
          by_cases c28 : ((⟨#[102, 105, 108, 116, 101, 114, 40]⟩ : ByteArray) ++ t160).size + 2 ≤ 9223372036854775807
          ·rw [if_pos c28] at H
           have c28b0 := eq_true c28
           have c28b1 : decide (((⟨#[102, 105, 108, 116, 101, 114, 40]⟩ : ByteArray) ++ t160).size + 2 ≤ 9223372036854775807) = true := decide_eq_true c28
           try have c28b2 : (9223372036854775807 < ((⟨#[102, 105, 108, 116, 101, 114, 40]⟩ : ByteArray) ++ t160).size + 2) = False := eq_false (Nat.not_lt.2 c28)
           (try (have c28b0z := c28b0; simp only [ByteArray.size_append] at c28b0z))
           (try (have c28b1z := c28b1; simp only [ByteArray.size_append] at c28b1z))
           (try (have c28b2z := c28b2; simp only [ByteArray.size_append] at c28b2z))
           (try (have c28b2y : (9223372036854775807 < 7 + t160.size + 2) = False := by (apply eq_false; have hq_ := c28; simp only [ByteArray.size_append, ByteArray.size_extract] at hq_; have hl0_ : (⟨#[102, 105, 108, 116, 101, 114, 40]⟩ : ByteArray).size = 7 := rfl; omega)))
           by_cases c29 : (((⟨#[102, 105, 108, 116, 101, 114, 40]⟩ : ByteArray) ++ t160) ++ (⟨#[44, 32]⟩ : ByteArray)).size + x5_2.size ≤ 9223372036854775807
           ·rw [if_pos c29] at H
            have c29b0 := eq_true c29
            have c29b1 : decide ((((⟨#[102, 105, 108, 116, 101, 114, 40]⟩ : ByteArray) ++ t160) ++ (⟨#[44, 32]⟩ : ByteArray)).size + x5_2.size ≤ 9223372036854775807) = true := decide_eq_true c29
            try have c29b2 : (9223372036854775807 < (((⟨#[102, 105, 108, 116, 101, 114, 40]⟩ : ByteArray) ++ t160) ++ (⟨#[44, 32]⟩ : ByteArray)).size + x5_2.size) = False := eq_false (Nat.not_lt.2 c29)
            (try (have c29b0z := c29b0; simp only [ByteArray.size_append] at c29b0z))
            (try (have c29b1z := c29b1; simp only [ByteArray.size_append] at c29b1z))
            (try (have c29b2z := c29b2; simp only [ByteArray.size_append] at c29b2z))
            (try (have c29b2y : (9223372036854775807 < 7 + t160.size + 2 + x5_2.size) = False := by (apply eq_false; have hq_ := c29; simp only [ByteArray.size_append, ByteArray.size_extract] at hq_; have hl0_ : (⟨#[102, 105, 108, 116, 101, 114, 40]⟩ : ByteArray).size = 7 := rfl; have hl1_ : (⟨#[44, 32]⟩ : ByteArray).size = 2 := rfl; omega)))
            by_cases c30 : ((((⟨#[102, 105, 108, 116, 101, 114, 40]⟩ : ByteArray) ++ t160) ++ (⟨#[44, 32]⟩ : ByteArray)) ++ x5_2).size + 1 ≤ 9223372036854775807
            ·rw [if_pos c30] at H
             have c30b0 := eq_true c30
             have c30b1 : decide (((((⟨#[102, 105, 108, 116, 101, 114, 40]⟩ : ByteArray) ++ t160) ++ (⟨#[44, 32]⟩ : ByteArray)) ++ x5_2).size + 1 ≤ 9223372036854775807) = true := decide_eq_true c30
             try have c30b2 : (9223372036854775807 < ((((⟨#[102, 105, 108, 116, 101, 114, 40]⟩ : ByteArray) ++ t160) ++ (⟨#[44, 32]⟩ : ByteArray)) ++ x5_2).size + 1) = False := eq_false (Nat.not_lt.2 c30)
             (try (have c30b0z := c30b0; simp only [ByteArray.size_append] at c30b0z))
             (try (have c30b1z := c30b1; simp only [ByteArray.size_append] at c30b1z))
             (try (have c30b2z := c30b2; simp only [ByteArray.size_append] at c30b2z))
             (try (have c30b2y : (9223372036854775807 < 7 + t160.size + 2 + x5_2.size + 1) = False := by (apply eq_false; have hq_ := c30; simp only [ByteArray.size_append, ByteArray.size_extract] at hq_; have hl0_ : (⟨#[102, 105, 108, 116, 101, 114, 40]⟩ : ByteArray).size = 7 := rfl; have hl1_ : (⟨#[44, 32]⟩ : ByteArray).size = 2 := rfl; omega)))
             obtain rfl := Option.some.inj H
             obtain ⟨hcz31_0, hcz31_1, hcz31_2, hcz31_3, hcz31_4, hcz31_5, hcz31_6, hcz31_7, hcz31_8, hcz31_9, hcz31_10, hcz31_11, hfz31_0, hfz31_1, hfz31_2, hfz31_3, hfz31_4, hfz31_5, hfz31_6, hfz31_7, hfz31_8, hfz31_9, hfz31_10, hfz31_11⟩ := b12_ BK154
             go_wp2_with (first | ((with_reducible refine gate_callee (f := 8) rfl ?_); refine gsL_ (some 46) Tryd.func8 #[.agg #[.int .i64 a0_2, .int .i64 a0_3, .int .i64 a0_4, .int .i64 a0_5, .string a0_6, .string a0_7, .slice A0_8 l0_8.length c0_8]] ?_; (with_reducible refine (spec_ExpText.calls k2 a0_2 a0_3 a0_4 a0_5 a0_6 a0_7 _ _ l0_8 t160 _ ?side1 ?side2 A26.out).mono ?_); (case side1 => exact ck_ (Kd.C_below HR0_8.out HB.out)); (case side2 => exact HC0_8.out); rintro e w32 ⟨rfl, hb⟩; refine ⟨_, rfl, ?_⟩; replace BK154 := bkb_ BK154 hb; replace HB := bs_ hb; (try clear hb); (try clear hb2); (try clear hk); (try clear hi)))
             go_ret
             exact ⟨er_, bb_⟩
            ·rw [if_neg c30] at H
             exact absurd H (by simp)
           ·rw [if_neg c29] at H
            exact absurd H (by simp)
          ·rw [if_neg c28] at H
           exact absurd H (by simp)
         ·rw [if_neg c27] at H
          exact absurd H (by simp)
        ·rw [if_neg c25] at H
         have c25b0 : (a0_0 == 1) = false := beq_eq_false_iff_ne.mpr c25
         have c25b1 : (a0_0 != 1) = true := bne_iff_ne.mpr c25
         by_cases c33 : a0_0 = 2
         ·rw [if_pos c33] at H
          have c33b0 : (a0_0 == 2) = true := beq_iff_eq.mpr c33
          have c33b1 : (a0_0 != 2) = false := bne_eq_false_iff_eq.mpr c33
          clear c33
          replace H := Option.bind_eq_some_iff.mp H
          obtain ⟨t161, A340, H⟩ := H
          replace H : (if 8 + t161.size ≤ 9223372036854775807 then (if ((⟨#[112, 114, 111, 106, 101, 99, 116, 40]⟩ : ByteArray) ++ t161).size + 2 ≤ 9223372036854775807 then (if (((⟨#[112, 114, 111, 106, 101, 99, 116, 40]⟩ : ByteArray) ++ t161) ++ (⟨#[44, 32]⟩ : ByteArray)).size + x5_2.size ≤ 9223372036854775807 then (if ((((⟨#[112, 114, 111, 106, 101, 99, 116, 40]⟩ : ByteArray) ++ t161) ++ (⟨#[44, 32]⟩ : ByteArray)) ++ x5_2).size + 1 ≤ 9223372036854775807 then (some (((((⟨#[112, 114, 111, 106, 101, 99, 116, 40]⟩ : ByteArray) ++ t161) ++ (⟨#[44, 32]⟩ : ByteArray)) ++ x5_2) ++ (⟨#[41]⟩ : ByteArray))) else (none)) else (none)) else (none)) else (none)) = some r := H
          have A34 := Aside0.mk A340
          clear A340
          by_cases c35 : 8 + t161.size ≤ 9223372036854775807
          ·rw [if_pos c35] at H
           have c35b0 := eq_true c35
           have c35b1 : decide (8 + t161.size ≤ 9223372036854775807) = true := decide_eq_true c35
           try have c35b2 : (9223372036854775807 < 8 + t161.size) = False := eq_false (Nat.not_lt.2 c35)
           by_cases c36 : ((⟨#[112, 114, 111, 106, 101, 99, 116, 40]⟩ : ByteArray) ++ t161).size + 2 ≤ 9223372036854775807
           ·rw [if_pos c36] at H
            have c36b0 := eq_true c36
            have c36b1 : decide (((⟨#[112, 114, 111, 106, 101, 99, 116, 40]⟩ : ByteArray) ++ t161).size + 2 ≤ 9223372036854775807) = true := decide_eq_true c36
            try have c36b2 : (9223372036854775807 < ((⟨#[112, 114, 111, 106, 101, 99, 116, 40]⟩ : ByteArray) ++ t161).size + 2) = False := eq_false (Nat.not_lt.2 c36)
            (try (have c36b0z := c36b0; simp only [ByteArray.size_append] at c36b0z))
            (try (have c36b1z := c36b1; simp only [ByteArray.size_append] at c36b1z))
            (try (have c36b2z := c36b2; simp only [ByteArray.size_append] at c36b2z))
            (try (have c36b2y : (9223372036854775807 < 8 + t161.size + 2) = False := by (apply eq_false; have hq_ := c36; simp only [ByteArray.size_append, ByteArray.size_extract] at hq_; have hl0_ : (⟨#[112, 114, 111, 106, 101, 99, 116, 40]⟩ : ByteArray).size = 8 := rfl; omega)))
            by_cases c37 : (((⟨#[112, 114, 111, 106, 101, 99, 116, 40]⟩ : ByteArray) ++ t161) ++ (⟨#[44, 32]⟩ : ByteArray)).size + x5_2.size ≤ 9223372036854775807
            ·rw [if_pos c37] at H
             have c37b0 := eq_true c37
             have c37b1 : decide ((((⟨#[112, 114, 111, 106, 101, 99, 116, 40]⟩ : ByteArray) ++ t161) ++ (⟨#[44, 32]⟩ : ByteArray)).size + x5_2.size ≤ 9223372036854775807) = true := decide_eq_true c37
             try have c37b2 : (9223372036854775807 < (((⟨#[112, 114, 111, 106, 101, 99, 116, 40]⟩ : ByteArray) ++ t161) ++ (⟨#[44, 32]⟩ : ByteArray)).size + x5_2.size) = False := eq_false (Nat.not_lt.2 c37)
             (try (have c37b0z := c37b0; simp only [ByteArray.size_append] at c37b0z))
             (try (have c37b1z := c37b1; simp only [ByteArray.size_append] at c37b1z))
             (try (have c37b2z := c37b2; simp only [ByteArray.size_append] at c37b2z))
             (try (have c37b2y : (9223372036854775807 < 8 + t161.size + 2 + x5_2.size) = False := by (apply eq_false; have hq_ := c37; simp only [ByteArray.size_append, ByteArray.size_extract] at hq_; have hl0_ : (⟨#[112, 114, 111, 106, 101, 99, 116, 40]⟩ : ByteArray).size = 8 := rfl; have hl1_ : (⟨#[44, 32]⟩ : ByteArray).size = 2 := rfl; omega)))
             by_cases c38 : ((((⟨#[112, 114, 111, 106, 101, 99, 116, 40]⟩ : ByteArray) ++ t161) ++ (⟨#[44, 32]⟩ : ByteArray)) ++ x5_2).size + 1 ≤ 9223372036854775807
             ·rw [if_pos c38] at H
              have c38b0 := eq_true c38
              have c38b1 : decide (((((⟨#[112, 114, 111, 106, 101, 99, 116, 40]⟩ : ByteArray) ++ t161) ++ (⟨#[44, 32]⟩ : ByteArray)) ++ x5_2).size + 1 ≤ 9223372036854775807) = true := decide_eq_true c38
              try have c38b2 : (9223372036854775807 < ((((⟨#[112, 114, 111, 106, 101, 99, 116, 40]⟩ : ByteArray) ++ t161) ++ (⟨#[44, 32]⟩ : ByteArray)) ++ x5_2).size + 1) = False := eq_false (Nat.not_lt.2 c38)
              (try (have c38b0z := c38b0; simp only [ByteArray.size_append] at c38b0z))
              (try (have c38b1z := c38b1; simp only [ByteArray.size_append] at c38b1z))
              (try (have c38b2z := c38b2; simp only [ByteArray.size_append] at c38b2z))
              (try (have c38b2y : (9223372036854775807 < 8 + t161.size + 2 + x5_2.size + 1) = False := by (apply eq_false; have hq_ := c38; simp only [ByteArray.size_append, ByteArray.size_extract] at hq_; have hl0_ : (⟨#[112, 114, 111, 106, 101, 99, 116, 40]⟩ : ByteArray).size = 8 := rfl; have hl1_ : (⟨#[44, 32]⟩ : ByteArray).size = 2 := rfl; omega)))
              obtain rfl := Option.some.inj H
              obtain ⟨hcz39_0, hcz39_1, hcz39_2, hcz39_3, hcz39_4, hcz39_5, hcz39_6, hcz39_7, hcz39_8, hcz39_9, hcz39_10, hcz39_11, hfz39_0, hfz39_1, hfz39_2, hfz39_3, hfz39_4, hfz39_5, hfz39_6, hfz39_7, hfz39_8, hfz39_9, hfz39_10, hfz39_11⟩ := b12_ BK154
              go_wp2_with (first | ((with_reducible refine gate_callee (f := 109) rfl ?_); refine gsL_ (some 56) Tryd.func109 #[.slice A0_9 l0_9.length c0_9] ?_; (with_reducible refine (spec_l04Exps.calls k2 _ _ l0_9 t161 _ ?side1 ?side2 A34.out).mono ?_); (case side1 => exact ck_ (Kd.C_below HR0_9.out HB.out)); (case side2 => exact HC0_9.out); rintro e w40 ⟨rfl, hb⟩; refine ⟨_, rfl, ?_⟩; replace BK154 := bkb_ BK154 hb; replace HB := bs_ hb; (try clear hb); (try clear hb2); (try clear hk); (try clear hi)))
              go_ret
              exact ⟨er_, bb_⟩
             ·rw [if_neg c38] at H
              exact absurd H (by simp)
            ·rw [if_neg c37] at H
             exact absurd H (by simp)
           ·rw [if_neg c36] at H
            exact absurd H (by simp)
          ·rw [if_neg c35] at H
           exact absurd H (by simp)
         ·rw [if_neg c33] at H
          have c33b0 : (a0_0 == 2) = false := beq_eq_false_iff_ne.mpr c33
          have c33b1 : (a0_0 != 2) = true := bne_iff_ne.mpr c33
          by_cases c41 : a0_0 = 3
          ·rw [if_pos c41] at H
           have c41b0 : (a0_0 == 3) = true := beq_iff_eq.mpr c41
           have c41b1 : (a0_0 != 3) = false := bne_eq_false_iff_eq.mpr c41
           clear c41
           replace H := Option.bind_eq_some_iff.mp H
           obtain ⟨t162, A420, H⟩ := H
           replace H : (if 5 + t162.size ≤ 9223372036854775807 then (if ((⟨#[106, 111, 105, 110, 40]⟩ : ByteArray) ++ t162).size + 2 ≤ 9223372036854775807 then (if (((⟨#[106, 111, 105, 110, 40]⟩ : ByteArray) ++ t162) ++ (⟨#[44, 32]⟩ : ByteArray)).size + x5_2.size ≤ 9223372036854775807 then (if ((((⟨#[106, 111, 105, 110, 40]⟩ : ByteArray) ++ t162) ++ (⟨#[44, 32]⟩ : ByteArray)) ++ x5_2).size + 1 ≤ 9223372036854775807 then (some (((((⟨#[106, 111, 105, 110, 40]⟩ : ByteArray) ++ t162) ++ (⟨#[44, 32]⟩ : ByteArray)) ++ x5_2) ++ (⟨#[41]⟩ : ByteArray))) else (none)) else (none)) else (none)) else (none)) = some r := H
           have A42 := Aside0.mk A420
           clear A420
           by_cases c43 : 5 + t162.size ≤ 9223372036854775807
           ·rw [if_pos c43] at H
            have c43b0 := eq_true c43
            have c43b1 : decide (5 + t162.size ≤ 9223372036854775807) = true := decide_eq_true c43
            try have c43b2 : (9223372036854775807 < 5 + t162.size) = False := eq_false (Nat.not_lt.2 c43)
            by_cases c44 : ((⟨#[106, 111, 105, 110, 40]⟩ : ByteArray) ++ t162).size + 2 ≤ 9223372036854775807
            ·rw [if_pos c44] at H
             have c44b0 := eq_true c44
             have c44b1 : decide (((⟨#[106, 111, 105, 110, 40]⟩ : ByteArray) ++ t162).size + 2 ≤ 9223372036854775807) = true := decide_eq_true c44
             try have c44b2 : (9223372036854775807 < ((⟨#[106, 111, 105, 110, 40]⟩ : ByteArray) ++ t162).size + 2) = False := eq_false (Nat.not_lt.2 c44)
             (try (have c44b0z := c44b0; simp only [ByteArray.size_append] at c44b0z))
             (try (have c44b1z := c44b1; simp only [ByteArray.size_append] at c44b1z))
             (try (have c44b2z := c44b2; simp only [ByteArray.size_append] at c44b2z))
             (try (have c44b2y : (9223372036854775807 < 5 + t162.size + 2) = False := by (apply eq_false; have hq_ := c44; simp only [ByteArray.size_append, ByteArray.size_extract] at hq_; have hl0_ : (⟨#[106, 111, 105, 110, 40]⟩ : ByteArray).size = 5 := rfl; omega)))
             by_cases c45 : (((⟨#[106, 111, 105, 110, 40]⟩ : ByteArray) ++ t162) ++ (⟨#[44, 32]⟩ : ByteArray)).size + x5_2.size ≤ 9223372036854775807
             ·rw [if_pos c45] at H
              have c45b0 := eq_true c45
              have c45b1 : decide ((((⟨#[106, 111, 105, 110, 40]⟩ : ByteArray) ++ t162) ++ (⟨#[44, 32]⟩ : ByteArray)).size + x5_2.size ≤ 9223372036854775807) = true := decide_eq_true c45
              try have c45b2 : (9223372036854775807 < (((⟨#[106, 111, 105, 110, 40]⟩ : ByteArray) ++ t162) ++ (⟨#[44, 32]⟩ : ByteArray)).size + x5_2.size) = False := eq_false (Nat.not_lt.2 c45)
              (try (have c45b0z := c45b0; simp only [ByteArray.size_append] at c45b0z))
              (try (have c45b1z := c45b1; simp only [ByteArray.size_append] at c45b1z))
              (try (have c45b2z := c45b2; simp only [ByteArray.size_append] at c45b2z))
              (try (have c45b2y : (9223372036854775807 < 5 + t162.size + 2 + x5_2.size) = False := by (apply eq_false; have hq_ := c45; simp only [ByteArray.size_append, ByteArray.size_extract] at hq_; have hl0_ : (⟨#[106, 111, 105, 110, 40]⟩ : ByteArray).size = 5 := rfl; have hl1_ : (⟨#[44, 32]⟩ : ByteArray).size = 2 := rfl; omega)))
              by_cases c46 : ((((⟨#[106, 111, 105, 110, 40]⟩ : ByteArray) ++ t162) ++ (⟨#[44, 32]⟩ : ByteArray)) ++ x5_2).size + 1 ≤ 9223372036854775807
              ·rw [if_pos c46] at H
               have c46b0 := eq_true c46
               have c46b1 : decide (((((⟨#[106, 111, 105, 110, 40]⟩ : ByteArray) ++ t162) ++ (⟨#[44, 32]⟩ : ByteArray)) ++ x5_2).size + 1 ≤ 9223372036854775807) = true := decide_eq_true c46
               try have c46b2 : (9223372036854775807 < ((((⟨#[106, 111, 105, 110, 40]⟩ : ByteArray) ++ t162) ++ (⟨#[44, 32]⟩ : ByteArray)) ++ x5_2).size + 1) = False := eq_false (Nat.not_lt.2 c46)
               (try (have c46b0z := c46b0; simp only [ByteArray.size_append] at c46b0z))
               (try (have c46b1z := c46b1; simp only [ByteArray.size_append] at c46b1z))
               (try (have c46b2z := c46b2; simp only [ByteArray.size_append] at c46b2z))
               (try (have c46b2y : (9223372036854775807 < 5 + t162.size + 2 + x5_2.size + 1) = False := by (apply eq_false; have hq_ := c46; simp only [ByteArray.size_append, ByteArray.size_extract] at hq_; have hl0_ : (⟨#[106, 111, 105, 110, 40]⟩ : ByteArray).size = 5 := rfl; have hl1_ : (⟨#[44, 32]⟩ : ByteArray).size = 2 := rfl; omega)))
               obtain rfl := Option.some.inj H
               obtain ⟨hcz47_0, hcz47_1, hcz47_2, hcz47_3, hcz47_4, hcz47_5, hcz47_6, hcz47_7, hcz47_8, hcz47_9, hcz47_10, hcz47_11, hfz47_0, hfz47_1, hfz47_2, hfz47_3, hfz47_4, hfz47_5, hfz47_6, hfz47_7, hfz47_8, hfz47_9, hfz47_10, hfz47_11⟩ := b12_ BK154
               go_wp2_with (first | ((with_reducible refine gate_callee (f := 8) rfl ?_); refine gsL_ (some 66) Tryd.func8 #[.agg #[.int .i64 a0_2, .int .i64 a0_3, .int .i64 a0_4, .int .i64 a0_5, .string a0_6, .string a0_7, .slice A0_8 l0_8.length c0_8]] ?_; (with_reducible refine (spec_ExpText.calls k2 a0_2 a0_3 a0_4 a0_5 a0_6 a0_7 _ _ l0_8 t162 _ ?side1 ?side2 A42.out).mono ?_); (case side1 => exact ck_ (Kd.C_below HR0_8.out HB.out)); (case side2 => exact HC0_8.out); rintro e w48 ⟨rfl, hb⟩; refine ⟨_, rfl, ?_⟩; replace BK154 := bkb_ BK154 hb; replace HB := bs_ hb; (try clear hb); (try clear hb2); (try clear hk); (try clear hi)))
               go_ret
               exact ⟨er_, bb_⟩
              ·rw [if_neg c46] at H
               exact absurd H (by simp)
             ·rw [if_neg c45] at H
              exact absurd H (by simp)
            ·rw [if_neg c44] at H
             exact absurd H (by simp)
           ·rw [if_neg c43] at H
            exact absurd H (by simp)
          ·rw [if_neg c41] at H
           have c41b0 : (a0_0 == 3) = false := beq_eq_false_iff_ne.mpr c41
           have c41b1 : (a0_0 != 3) = true := bne_iff_ne.mpr c41
           by_cases c49 : a0_0 = 4
           ·rw [if_pos c49] at H
            have c49b0 : (a0_0 == 4) = true := beq_iff_eq.mpr c49
            have c49b1 : (a0_0 != 4) = false := bne_eq_false_iff_eq.mpr c49
            clear c49
            by_cases c50 : 6 + x5_2.size ≤ 9223372036854775807
            ·rw [if_pos c50] at H
             have c50b0 := eq_true c50
             have c50b1 : decide (6 + x5_2.size ≤ 9223372036854775807) = true := decide_eq_true c50
             try have c50b2 : (9223372036854775807 < 6 + x5_2.size) = False := eq_false (Nat.not_lt.2 c50)
             by_cases c51 : ((⟨#[117, 110, 105, 111, 110, 40]⟩ : ByteArray) ++ x5_2).size + 1 ≤ 9223372036854775807
             ·rw [if_pos c51] at H
              have c51b0 := eq_true c51
              have c51b1 : decide (((⟨#[117, 110, 105, 111, 110, 40]⟩ : ByteArray) ++ x5_2).size + 1 ≤ 9223372036854775807) = true := decide_eq_true c51
              try have c51b2 : (9223372036854775807 < ((⟨#[117, 110, 105, 111, 110, 40]⟩ : ByteArray) ++ x5_2).size + 1) = False := eq_false (Nat.not_lt.2 c51)
              (try (have c51b0z := c51b0; simp only [ByteArray.size_append] at c51b0z))
              (try (have c51b1z := c51b1; simp only [ByteArray.size_append] at c51b1z))
              (try (have c51b2z := c51b2; simp only [ByteArray.size_append] at c51b2z))
              (try (have c51b2y : (9223372036854775807 < 6 + x5_2.size + 1) = False := by (apply eq_false; have hq_ := c51; simp only [ByteArray.size_append, ByteArray.size_extract] at hq_; have hl0_ : (⟨#[117, 110, 105, 111, 110, 40]⟩ : ByteArray).size = 6 := rfl; omega)))
              obtain rfl := Option.some.inj H
              obtain ⟨hcz52_0, hcz52_1, hcz52_2, hcz52_3, hcz52_4, hcz52_5, hcz52_6, hcz52_7, hcz52_8, hcz52_9, hcz52_10, hcz52_11, hfz52_0, hfz52_1, hfz52_2, hfz52_3, hfz52_4, hfz52_5, hfz52_6, hfz52_7, hfz52_8, hfz52_9, hfz52_10, hfz52_11⟩ := b12_ BK154
              go_wp2
              go_ret
              exact ⟨er_, bb_⟩
             ·rw [if_neg c51] at H
              exact absurd H (by simp)
            ·rw [if_neg c50] at H
             exact absurd H (by simp)
           ·rw [if_neg c49] at H
            have c49b0 : (a0_0 == 4) = false := beq_eq_false_iff_ne.mpr c49
            have c49b1 : (a0_0 != 4) = true := bne_iff_ne.mpr c49
            by_cases c53 : a0_0 = 5
            ·rw [if_pos c53] at H
             have c53b0 : (a0_0 == 5) = true := beq_iff_eq.mpr c53
             have c53b1 : (a0_0 != 5) = false := bne_eq_false_iff_eq.mpr c53
             clear c53
             by_cases c54 : 9 + x5_2.size ≤ 9223372036854775807
             ·rw [if_pos c54] at H
              have c54b0 := eq_true c54
              have c54b1 : decide (9 + x5_2.size ≤ 9223372036854775807) = true := decide_eq_true c54
              try have c54b2 : (9223372036854775807 < 9 + x5_2.size) = False := eq_false (Nat.not_lt.2 c54)
              by_cases c55 : ((⟨#[100, 105, 115, 116, 105, 110, 99, 116, 40]⟩ : ByteArray) ++ x5_2).size + 1 ≤ 9223372036854775807
              ·rw [if_pos c55] at H
               have c55b0 := eq_true c55
               have c55b1 : decide (((⟨#[100, 105, 115, 116, 105, 110, 99, 116, 40]⟩ : ByteArray) ++ x5_2).size + 1 ≤ 9223372036854775807) = true := decide_eq_true c55
               try have c55b2 : (9223372036854775807 < ((⟨#[100, 105, 115, 116, 105, 110, 99, 116, 40]⟩ : ByteArray) ++ x5_2).size + 1) = False := eq_false (Nat.not_lt.2 c55)
               (try (have c55b0z := c55b0; simp only [ByteArray.size_append] at c55b0z))
               (try (have c55b1z := c55b1; simp only [ByteArray.size_append] at c55b1z))
               (try (have c55b2z := c55b2; simp only [ByteArray.size_append] at c55b2z))
               (try (have c55b2y : (9223372036854775807 < 9 + x5_2.size + 1) = False := by (apply eq_false; have hq_ := c55; simp only [ByteArray.size_append, ByteArray.size_extract] at hq_; have hl0_ : (⟨#[100, 105, 115, 116, 105, 110, 99, 116, 40]⟩ : ByteArray).size = 9 := rfl; omega)))
               obtain rfl := Option.some.inj H
               obtain ⟨hcz56_0, hcz56_1, hcz56_2, hcz56_3, hcz56_4, hcz56_5, hcz56_6, hcz56_7, hcz56_8, hcz56_9, hcz56_10, hcz56_11, hfz56_0, hfz56_1, hfz56_2, hfz56_3, hfz56_4, hfz56_5, hfz56_6, hfz56_7, hfz56_8, hfz56_9, hfz56_10, hfz56_11⟩ := b12_ BK154
               go_wp2
               go_ret
               exact ⟨er_, bb_⟩
              ·rw [if_neg c55] at H
               exact absurd H (by simp)
             ·rw [if_neg c54] at H
              exact absurd H (by simp)
            ·rw [if_neg c53] at H
             have c53b0 : (a0_0 == 5) = false := beq_eq_false_iff_ne.mpr c53
             have c53b1 : (a0_0 != 5) = true := bne_iff_ne.mpr c53
             replace H := Option.bind_eq_some_iff.mp H
             obtain ⟨t163, A570, H⟩ := H
             replace H : (if 6 + t163.size ≤ 9223372036854775807 then (if ((⟨#[103, 114, 111, 117, 112, 40]⟩ : ByteArray) ++ t163).size + 2 ≤ 9223372036854775807 then ((spec_l04Exps.f k2 l0_9).bind fun t164 => (if (((⟨#[103, 114, 111, 117, 112, 40]⟩ : ByteArray) ++ t163) ++ (⟨#[44, 32]⟩ : ByteArray)).size + t164.size ≤ 9223372036854775807 then (if ((((⟨#[103, 114, 111, 117, 112, 40]⟩ : ByteArray) ++ t163) ++ (⟨#[44, 32]⟩ : ByteArray)) ++ t164).size + 2 ≤ 9223372036854775807 then (if (((((⟨#[103, 114, 111, 117, 112, 40]⟩ : ByteArray) ++ t163) ++ (⟨#[44, 32]⟩ : ByteArray)) ++ t164) ++ (⟨#[44, 32]⟩ : ByteArray)).size + x5_2.size ≤ 9223372036854775807 then (if ((((((⟨#[103, 114, 111, 117, 112, 40]⟩ : ByteArray) ++ t163) ++ (⟨#[44, 32]⟩ : ByteArray)) ++ t164) ++ (⟨#[44, 32]⟩ : ByteArray)) ++ x5_2).size + 1 ≤ 9223372036854775807 then (some (((((((⟨#[103, 114, 111, 117, 112, 40]⟩ : ByteArray) ++ t163) ++ (⟨#[44, 32]⟩ : ByteArray)) ++ t164) ++ (⟨#[44, 32]⟩ : ByteArray)) ++ x5_2) ++ (⟨#[41]⟩ : ByteArray))) else (none)) else (none)) else (none)) else (none))) else (none)) else (none)) = some r := H
             have A57 := Aside0.mk A570
             clear A570
             by_cases c58 : 6 + t163.size ≤ 9223372036854775807
             ·rw [if_pos c58] at H
              have c58b0 := eq_true c58
              have c58b1 : decide (6 + t163.size ≤ 9223372036854775807) = true := decide_eq_true c58
              try have c58b2 : (9223372036854775807 < 6 + t163.size) = False := eq_false (Nat.not_lt.2 c58)
              by_cases c59 : ((⟨#[103, 114, 111, 117, 112, 40]⟩ : ByteArray) ++ t163).size + 2 ≤ 9223372036854775807
              ·rw [if_pos c59] at H
               have c59b0 := eq_true c59
               have c59b1 : decide (((⟨#[103, 114, 111, 117, 112, 40]⟩ : ByteArray) ++ t163).size + 2 ≤ 9223372036854775807) = true := decide_eq_true c59
               try have c59b2 : (9223372036854775807 < ((⟨#[103, 114, 111, 117, 112, 40]⟩ : ByteArray) ++ t163).size + 2) = False := eq_false (Nat.not_lt.2 c59)
               (try (have c59b0z := c59b0; simp only [ByteArray.size_append] at c59b0z))
               (try (have c59b1z := c59b1; simp only [ByteArray.size_append] at c59b1z))
               (try (have c59b2z := c59b2; simp only [ByteArray.size_append] at c59b2z))
               (try (have c59b2y : (9223372036854775807 < 6 + t163.size + 2) = False := by (apply eq_false; have hq_ := c59; simp only [ByteArray.size_append, ByteArray.size_extract] at hq_; have hl0_ : (⟨#[103, 114, 111, 117, 112, 40]⟩ : ByteArray).size = 6 := rfl; omega)))
               replace H := Option.bind_eq_some_iff.mp H
               obtain ⟨t164, A600, H⟩ := H
               replace H : (if (((⟨#[103, 114, 111, 117, 112, 40]⟩ : ByteArray) ++ t163) ++ (⟨#[44, 32]⟩ : ByteArray)).size + t164.size ≤ 9223372036854775807 then (if ((((⟨#[103, 114, 111, 117, 112, 40]⟩ : ByteArray) ++ t163) ++ (⟨#[44, 32]⟩ : ByteArray)) ++ t164).size + 2 ≤ 9223372036854775807 then (if (((((⟨#[103, 114, 111, 117, 112, 40]⟩ : ByteArray) ++ t163) ++ (⟨#[44, 32]⟩ : ByteArray)) ++ t164) ++ (⟨#[44, 32]⟩ : ByteArray)).size + x5_2.size ≤ 9223372036854775807 then (if ((((((⟨#[103, 114, 111, 117, 112, 40]⟩ : ByteArray) ++ t163) ++ (⟨#[44, 32]⟩ : ByteArray)) ++ t164) ++ (⟨#[44, 32]⟩ : ByteArray)) ++ x5_2).size + 1 ≤ 9223372036854775807 then (some (((((((⟨#[103, 114, 111, 117, 112, 40]⟩ : ByteArray) ++ t163) ++ (⟨#[44, 32]⟩ : ByteArray)) ++ t164) ++ (⟨#[44, 32]⟩ : ByteArray)) ++ x5_2) ++ (⟨#[41]⟩ : ByteArray))) else (none)) else (none)) else (none)) else (none)) = some r := H
               have A60 := Aside0.mk A600
               clear A600
               by_cases c61 : (((⟨#[103, 114, 111, 117, 112, 40]⟩ : ByteArray) ++ t163) ++ (⟨#[44, 32]⟩ : ByteArray)).size + t164.size ≤ 9223372036854775807
               ·rw [if_pos c61] at H
                have c61b0 := eq_true c61
                have c61b1 : decide ((((⟨#[103, 114, 111, 117, 112, 40]⟩ : ByteArray) ++ t163) ++ (⟨#[44, 32]⟩ : ByteArray)).size + t164.size ≤ 9223372036854775807) = true := decide_eq_true c61
                try have c61b2 : (9223372036854775807 < (((⟨#[103, 114, 111, 117, 112, 40]⟩ : ByteArray) ++ t163) ++ (⟨#[44, 32]⟩ : ByteArray)).size + t164.size) = False := eq_false (Nat.not_lt.2 c61)
                (try (have c61b0z := c61b0; simp only [ByteArray.size_append] at c61b0z))
                (try (have c61b1z := c61b1; simp only [ByteArray.size_append] at c61b1z))
                (try (have c61b2z := c61b2; simp only [ByteArray.size_append] at c61b2z))
                (try (have c61b2y : (9223372036854775807 < 6 + t163.size + 2 + t164.size) = False := by (apply eq_false; have hq_ := c61; simp only [ByteArray.size_append, ByteArray.size_extract] at hq_; have hl0_ : (⟨#[103, 114, 111, 117, 112, 40]⟩ : ByteArray).size = 6 := rfl; have hl1_ : (⟨#[44, 32]⟩ : ByteArray).size = 2 := rfl; omega)))
                by_cases c62 : ((((⟨#[103, 114, 111, 117, 112, 40]⟩ : ByteArray) ++ t163) ++ (⟨#[44, 32]⟩ : ByteArray)) ++ t164).size + 2 ≤ 9223372036854775807
                ·rw [if_pos c62] at H
                 have c62b0 := eq_true c62
                 have c62b1 : decide (((((⟨#[103, 114, 111, 117, 112, 40]⟩ : ByteArray) ++ t163) ++ (⟨#[44, 32]⟩ : ByteArray)) ++ t164).size + 2 ≤ 9223372036854775807) = true := decide_eq_true c62
                 try have c62b2 : (9223372036854775807 < ((((⟨#[103, 114, 111, 117, 112, 40]⟩ : ByteArray) ++ t163) ++ (⟨#[44, 32]⟩ : ByteArray)) ++ t164).size + 2) = False := eq_false (Nat.not_lt.2 c62)
                 (try (have c62b0z := c62b0; simp only [ByteArray.size_append] at c62b0z))
                 (try (have c62b1z := c62b1; simp only [ByteArray.size_append] at c62b1z))
                 (try (have c62b2z := c62b2; simp only [ByteArray.size_append] at c62b2z))
                 (try (have c62b2y : (9223372036854775807 < 6 + t163.size + 2 + t164.size + 2) = False := by (apply eq_false; have hq_ := c62; simp only [ByteArray.size_append, ByteArray.size_extract] at hq_; have hl0_ : (⟨#[103, 114, 111, 117, 112, 40]⟩ : ByteArray).size = 6 := rfl; have hl1_ : (⟨#[44, 32]⟩ : ByteArray).size = 2 := rfl; omega)))
                 by_cases c63 : (((((⟨#[103, 114, 111, 117, 112, 40]⟩ : ByteArray) ++ t163) ++ (⟨#[44, 32]⟩ : ByteArray)) ++ t164) ++ (⟨#[44, 32]⟩ : ByteArray)).size + x5_2.size ≤ 9223372036854775807
                 ·rw [if_pos c63] at H
                  have c63b0 := eq_true c63
                  have c63b1 : decide ((((((⟨#[103, 114, 111, 117, 112, 40]⟩ : ByteArray) ++ t163) ++ (⟨#[44, 32]⟩ : ByteArray)) ++ t164) ++ (⟨#[44, 32]⟩ : ByteArray)).size + x5_2.size ≤ 9223372036854775807) = true := decide_eq_true c63
                  try have c63b2 : (9223372036854775807 < (((((⟨#[103, 114, 111, 117, 112, 40]⟩ : ByteArray) ++ t163) ++ (⟨#[44, 32]⟩ : ByteArray)) ++ t164) ++ (⟨#[44, 32]⟩ : ByteArray)).size + x5_2.size) = False := eq_false (Nat.not_lt.2 c63)
                  (try (have c63b0z := c63b0; simp only [ByteArray.size_append] at c63b0z))
                  (try (have c63b1z := c63b1; simp only [ByteArray.size_append] at c63b1z))
                  (try (have c63b2z := c63b2; simp only [ByteArray.size_append] at c63b2z))
                  (try (have c63b2y : (9223372036854775807 < 6 + t163.size + 2 + t164.size + 2 + x5_2.size) = False := by (apply eq_false; have hq_ := c63; simp only [ByteArray.size_append, ByteArray.size_extract] at hq_; have hl0_ : (⟨#[103, 114, 111, 117, 112, 40]⟩ : ByteArray).size = 6 := rfl; have hl1_ : (⟨#[44, 32]⟩ : ByteArray).size = 2 := rfl; omega)))
                  by_cases c64 : ((((((⟨#[103, 114, 111, 117, 112, 40]⟩ : ByteArray) ++ t163) ++ (⟨#[44, 32]⟩ : ByteArray)) ++ t164) ++ (⟨#[44, 32]⟩ : ByteArray)) ++ x5_2).size + 1 ≤ 9223372036854775807
                  ·rw [if_pos c64] at H
                   have c64b0 := eq_true c64
                   have c64b1 : decide (((((((⟨#[103, 114, 111, 117, 112, 40]⟩ : ByteArray) ++ t163) ++ (⟨#[44, 32]⟩ : ByteArray)) ++ t164) ++ (⟨#[44, 32]⟩ : ByteArray)) ++ x5_2).size + 1 ≤ 9223372036854775807) = true := decide_eq_true c64
                   try have c64b2 : (9223372036854775807 < ((((((⟨#[103, 114, 111, 117, 112, 40]⟩ : ByteArray) ++ t163) ++ (⟨#[44, 32]⟩ : ByteArray)) ++ t164) ++ (⟨#[44, 32]⟩ : ByteArray)) ++ x5_2).size + 1) = False := eq_false (Nat.not_lt.2 c64)
                   (try (have c64b0z := c64b0; simp only [ByteArray.size_append] at c64b0z))
                   (try (have c64b1z := c64b1; simp only [ByteArray.size_append] at c64b1z))
                   (try (have c64b2z := c64b2; simp only [ByteArray.size_append] at c64b2z))
                   (try (have c64b2y : (9223372036854775807 < 6 + t163.size + 2 + t164.size + 2 + x5_2.size + 1) = False := by (apply eq_false; have hq_ := c64; simp only [ByteArray.size_append, ByteArray.size_extract] at hq_; have hl0_ : (⟨#[103, 114, 111, 117, 112, 40]⟩ : ByteArray).size = 6 := rfl; have hl1_ : (⟨#[44, 32]⟩ : ByteArray).size = 2 := rfl; omega)))
                   obtain rfl := Option.some.inj H
                   obtain ⟨hcz65_0, hcz65_1, hcz65_2, hcz65_3, hcz65_4, hcz65_5, hcz65_6, hcz65_7, hcz65_8, hcz65_9, hcz65_10, hcz65_11, hfz65_0, hfz65_1, hfz65_2, hfz65_3, hfz65_4, hfz65_5, hfz65_6, hfz65_7, hfz65_8, hfz65_9, hfz65_10, hfz65_11⟩ := b12_ BK154
                   try go_wp2
                   replace BK154 := Aside0.mk (blk_drew BK154.out)
                   replace HB := Aside0.mk (below_drew1 HB.out)
                   refine start_ (n := 14) (S := fun w' => w'.cell? ⟨gb154, 0, none⟩ = some (.int .i64 a0_0) ∧ w'.cell? ⟨gb154, 1, none⟩ = some (.string a0_1) ∧ w'.cell? ⟨gb154, 2, none⟩ = some (.int .i64 a0_2) ∧ w'.cell? ⟨gb154, 3, none⟩ = some (.int .i64 a0_3) ∧ w'.cell? ⟨gb154, 4, none⟩ = some (.int .i64 a0_4) ∧ w'.cell? ⟨gb154, 5, none⟩ = some (.int .i64 a0_5) ∧ w'.cell? ⟨gb154, 6, none⟩ = some (.string a0_6) ∧ w'.cell? ⟨gb154, 7, none⟩ = some (.string a0_7) ∧ w'.cell? ⟨gb154, 8, none⟩ = some (.slice A0_8 l0_8.length c0_8) ∧ w'.cell? ⟨gb154, 9, none⟩ = some (.slice A0_9 l0_9.length c0_9) ∧ w'.cell? ⟨gb154, 10, none⟩ = some (.int .i64 a0_10) ∧ w'.cell? ⟨gb154, 11, none⟩ = some (.slice A0_11 l0_11.length c0_11)) (ds := []) (tf 0 14) (by kernel_rfl) rfl rfl ⟨bc_ BK154 0, bc_ BK154 1, bc_ BK154 2, bc_ BK154 3, bc_ BK154 4, bc_ BK154 5, bc_ BK154 6, bc_ BK154 7, bc_ BK154 8, bc_ BK154 9, bc_ BK154 10, bc_ BK154 11⟩ (fun hHeld => ?_); refine with_tabW spec_l04Text.tab23 spec_l04Text.bits23 (fun HT_ HW_ => ?_)
                   generalize wr.drew = w66 at BK154 HB hHeld ⊢
                   refine pl_ ?_
                   refine plx_ 5 #[true, false, false, false, false, true, false, false, false, false, false, false, false, false] ?_
                   refine plx_ 10 #[true, false, false, false, false, true, false, false, false, false, true, false, false, false] ?_
                   refine tlx_ 1 #[true, true, false, false, false, true, false, false, false, false, true, false, false, false] ?_
                   refine tlx_ 6 #[true, true, false, false, false, true, true, false, false, false, true, false, false, false] ?_
                   refine one_ (i := 2) (N := some 84) #[true, true, true, false, false, true, true, false, false, false, true, false, false, false] rfl rfl (one_of HT_.out (by kernel_rfl)) (by decide) (fun K hK => ?_)
                   refine gs_ Tryd.func31 #[.int .i64 a0_10] ?_
                   with_reducible refine (spec_DecText.calls k2 a0_10 t163 _ A57.out).mono ?_
                   rintro e w' ⟨rfl, ⟨nd, rfl⟩⟩
                   refine ⟨_, rfl, ?_⟩
                   refine hK.out _ _ ⟨bc_ BK154 0, bc_ BK154 1, bc_ BK154 2, bc_ BK154 3, bc_ BK154 4, bc_ BK154 5, bc_ BK154 6, bc_ BK154 7, bc_ BK154 8, bc_ BK154 9, bc_ BK154 10, bc_ BK154 11⟩ (fun hHeld => ?_)
                   clear hK K
                   refine nm_ ?_
                   refine plx_ 3 #[true, true, true, true, false, true, true, false, false, false, true, false, false, false] ?_
                   refine plx_ 4 #[true, true, true, true, true, true, true, false, false, false, true, false, false, false] ?_
                   refine one_ (i := 7) (N := some 89) #[true, true, true, true, true, true, true, true, false, false, true, false, false, false] rfl rfl (one_of HT_.out (by kernel_rfl)) (by decide) (fun K hK => ?_)
                   refine gs_ Tryd.func109 #[.slice A0_9 l0_9.length c0_9] ?_
                   with_reducible refine (spec_l04Exps.calls k2 _ _ l0_9 t164 _ ?side1 ?side2 A60.out).mono ?_
                   (case side1 => exact ck_ (Kd.C_below HR0_9.out bb_))
                   (case side2 => exact HC0_9.out)
                   rintro e w67 ⟨rfl, hb⟩
                   refine ⟨_, rfl, ?_⟩
                   replace BK154 := bkb_ BK154 hb
                   replace HB := bs_ hb
                   (try clear hb)
                   (try clear hb2)
                   (try clear hk)
                   (try clear hi)
                   refine hK.out _ _ ⟨bc_ BK154 0, bc_ BK154 1, bc_ BK154 2, bc_ BK154 3, bc_ BK154 4, bc_ BK154 5, bc_ BK154 6, bc_ BK154 7, bc_ BK154 8, bc_ BK154 9, bc_ BK154 10, bc_ BK154 11⟩ (fun hHeld => ?_)
                   clear hK K
                   refine nm_ ?_
                   refine plx_ 8 #[true, true, true, true, true, true, true, true, true, false, true, false, false, false] ?_
                   refine plx_ 9 (tf 11 3) ?_
                   iterate 3 (refine pl_ ?_)
                   refine done_ (done_of HT_.out (by kernel_rfl)) ?_
                   try go_wp2
                   go_ret
                   exact ⟨er_, bb_⟩
                  ·rw [if_neg c64] at H
                   exact absurd H (by simp)
                 ·rw [if_neg c63] at H
                  exact absurd H (by simp)
                ·rw [if_neg c62] at H
                 exact absurd H (by simp)
               ·rw [if_neg c61] at H
                exact absurd H (by simp)
              ·rw [if_neg c59] at H
               exact absurd H (by simp)
             ·rw [if_neg c58] at H
              exact absurd H (by simp)

end Go.Proofs.YthgdmdabdlgliaaDoor.PFnExactPlanText
