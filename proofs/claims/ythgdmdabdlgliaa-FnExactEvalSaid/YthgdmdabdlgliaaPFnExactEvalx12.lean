-- WRITTEN BY xprint.py, a program of this session over the kit's printer: by nobody's hand
-- PRESSED
import Derived.Test.YthgdmdabdlgliaaPress
import Derived.Test.YthgdmdabdlgliaaPFnExactEvalx0
import Derived.Test.YthgdmdabdlgliaaPFnExactEvalx8
import Derived.Test.YthgdmdabdlgliaaPFnExactEvalx9
import Derived.Test.YthgdmdabdlgliaaPFnExactEvalx10
import Derived.Test.YthgdmdabdlgliaaPFnExactEvalx11
namespace Go.Proofs.Ythgdmdabdlgliaa.PFnExactEval
open Go.RowKit Go.Proofs.YthgdmdabdlgliaaW.PrintWords Go.Proofs.YthgdmdabdlgliaaW.PrintLast Go.Proofs.YthgdmdabdlgliaaW.PrintMore
set_option linter.unusedVariables false
set_option linter.unusedSimpArgs false

/-! ### impl_Reckon: function 9 -/
mutual
def impl_Reckon.j0 : Nat → ByteArray → ByteArray → Bool → Int → Int → ByteArray → Int → Int → ByteArray → Option (Int × Int × ByteArray)
 | 0, _, _, _, _, _, _, _, _, _ => none
 | k + 1, x0, x10, x11, x335000, x335001, x335002, x336000, x336001, x336002 => if x11 = true then (if x335000 = 1 then (impl_Reckon.j1 k x0 (x336000 != 1) x335000 x335001 x335002 x336000 x336001 x336002) else (impl_Reckon.j1 k x0 true x335000 x335001 x335002 x336000 x336001 x336002)) else (if x10.toList = ([61] : List UInt8) then (impl_Reckon.j2 k x0 x10 (x10.toList == ([61] : List UInt8)) x335000 x335001 x335002 x336000 x336001 x336002) else (impl_Reckon.j2 k x0 x10 (x10.toList == ([60] : List UInt8)) x335000 x335001 x335002 x336000 x336001 x336002))
def impl_Reckon.j1 : Nat → ByteArray → Bool → Int → Int → ByteArray → Int → Int → ByteArray → Option (Int × Int × ByteArray)
 | 0, _, _, _, _, _, _, _, _ => none
 | k + 1, x0, x23, x335000, x335001, x335002, x336000, x336001, x336002 => if x23 = true then ((impl_null.f).bind fun bt337 => (some (bt337.1, bt337.2.1, bt337.2.2))) else ((impl_count.f k x0 x335001 x336001).bind fun bt340 => (if bt340.2 = true then ((impl_number.f bt340.1).bind fun bt342 => (some (bt342.1, bt342.2.1, bt342.2.2))) else ((impl_null.f).bind fun bt345 => (some (bt345.1, bt345.2.1, bt345.2.2)))))
def impl_Reckon.j2 : Nat → ByteArray → ByteArray → Bool → Int → Int → ByteArray → Int → Int → ByteArray → Option (Int × Int × ByteArray)
 | 0, _, _, _, _, _, _, _, _, _ => none
 | k + 1, x0, x10, x39, x335000, x335001, x335002, x336000, x336001, x336002 => if x39 = true then (if x335000 = x336000 then (impl_Reckon.j3 k x0 (x335000 == 0) x335000 x335001 x335002 x336000 x336001 x336002) else (impl_Reckon.j3 k x0 true x335000 x335001 x335002 x336000 x336001 x336002)) else (if x10.toList = ([126] : List UInt8) then (if x335000 = 3 then (impl_Reckon.j4 k (x336000 != 3) x335000 x335001 x335002 x336000 x336001 x336002) else (impl_Reckon.j4 k true x335000 x335001 x335002 x336000 x336001 x336002)) else (if x10.toList = ([97, 110, 100] : List UInt8) then ((impl_decide.f k x335000 x335001 x335002 x336000 x336001 x336002 false).bind fun bt374 => (some (bt374.1, bt374.2.1, bt374.2.2))) else (if x10.toList = ([111, 114] : List UInt8) then ((impl_decide.f k x335000 x335001 x335002 x336000 x336001 x336002 true).bind fun bt377 => (some (bt377.1, bt377.2.1, bt377.2.2))) else ((impl_null.f).bind fun bt380 => (some (bt380.1, bt380.2.1, bt380.2.2))))))
def impl_Reckon.j3 : Nat → ByteArray → Bool → Int → Int → ByteArray → Int → Int → ByteArray → Option (Int × Int × ByteArray)
 | 0, _, _, _, _, _, _, _, _ => none
 | k + 1, x0, x51, x335000, x335001, x335002, x336000, x336001, x336002 => if x51 = true then ((impl_null.f).bind fun bt348 => (some (bt348.1, bt348.2.1, bt348.2.2))) else ((impl_CompareValue.f k x335000 x335001 x335002 x336000 x336001 x336002).bind fun t351 => (if x0.toList = ([61] : List UInt8) then (if t351 = 0 then ((impl_flag.f true).bind fun bt352 => (some (bt352.1, bt352.2.1, bt352.2.2))) else (if x0.toList = ([60] : List UInt8) then ((impl_flag.f (decide (t351 < 0))).bind fun bt355 => (some (bt355.1, bt355.2.1, bt355.2.2))) else ((impl_flag.f false).bind fun bt358 => (some (bt358.1, bt358.2.1, bt358.2.2))))) else (if x0.toList = ([60] : List UInt8) then ((impl_flag.f (decide (t351 < 0))).bind fun bt361 => (some (bt361.1, bt361.2.1, bt361.2.2))) else ((impl_flag.f false).bind fun bt364 => (some (bt364.1, bt364.2.1, bt364.2.2))))))
def impl_Reckon.j4 : Nat → Bool → Int → Int → ByteArray → Int → Int → ByteArray → Option (Int × Int × ByteArray)
 | 0, _, _, _, _, _, _, _ => none
 | k + 1, x80, x335000, x335001, x335002, x336000, x336001, x336002 => if x80 = true then ((impl_null.f).bind fun bt367 => (some (bt367.1, bt367.2.1, bt367.2.2))) else ((strings_Contains.f x335002 x336002).bind fun t370 => ((impl_flag.f t370).bind fun bt371 => (some (bt371.1, bt371.2.1, bt371.2.2))))
end
def impl_Reckon.f (k : Nat) (a0 : ByteArray) (a1_0 : Int) (a1_1 : Int) (a1_2 : ByteArray) (a2_0 : Int) (a2_1 : Int) (a2_2 : ByteArray) : Option (Int × Int × ByteArray) := if a0.toList = ([43] : List UInt8) then (impl_Reckon.j0 k a0 a0 (a0.toList == ([43] : List UInt8)) a1_0 a1_1 a1_2 a2_0 a2_1 a2_2) else (if a0.toList = ([45] : List UInt8) then (impl_Reckon.j0 k a0 a0 (a0.toList == ([45] : List UInt8)) a1_0 a1_1 a1_2 a2_0 a2_1 a2_2) else (if a0.toList = ([42] : List UInt8) then (impl_Reckon.j0 k a0 a0 (a0.toList == ([42] : List UInt8)) a1_0 a1_1 a1_2 a2_0 a2_1 a2_2) else (impl_Reckon.j0 k a0 a0 (a0.toList == ([47] : List UInt8)) a1_0 a1_1 a1_2 a2_0 a2_1 a2_2)))
set_option maxHeartbeats 8000000 in
set_option maxRecDepth 100000 in
theorem impl_Reckon.calls (k : Nat) (a0 : ByteArray) (a1_0 : Int) (a1_1 : Int) (a1_2 : ByteArray) (a2_0 : Int) (a2_1 : Int) (a2_2 : ByteArray) (r1 : Int) (r2 : Int) (r3 : ByteArray) (w : World) (h : impl_Reckon.f k a0 a1_0 a1_1 a1_2 a2_0 a2_1 a2_2 = some (r1, r2, r3)) (hM : MaxLenIn w := by first | assumption | exact MaxLenIn.drewN (by assumption) _ | exact MaxLenIn.later (by assumption) (by assumption) | exact MaxLenIn.drewN (MaxLenIn.later (by assumption) (by assumption)) _) :
  Calls Try.prog 9 #[.string a0, .agg #[.int .i64 a1_0, .int .i64 a1_1, .string a1_2], .agg #[.int .i64 a2_0, .int .i64 a2_1, .string a2_2]] w fun e w' => e = .returned (.agg #[.int .i64 r1, .int .i64 r2, .string r3]) ∧ Below w.heap.size w w' := by
 have hu25 := Try.underlying25
 have HB := Aside0.mk (Below.refl w.heap.size w)
 have H : (if a0.toList = ([43] : List UInt8) then (impl_Reckon.j0 k a0 a0 (a0.toList == ([43] : List UInt8)) a1_0 a1_1 a1_2 a2_0 a2_1 a2_2) else (if a0.toList = ([45] : List UInt8) then (impl_Reckon.j0 k a0 a0 (a0.toList == ([45] : List UInt8)) a1_0 a1_1 a1_2 a2_0 a2_1 a2_2) else (if a0.toList = ([42] : List UInt8) then (impl_Reckon.j0 k a0 a0 (a0.toList == ([42] : List UInt8)) a1_0 a1_1 a1_2 a2_0 a2_1 a2_2) else (impl_Reckon.j0 k a0 a0 (a0.toList == ([47] : List UInt8)) a1_0 a1_1 a1_2 a2_0 a2_1 a2_2)))) = some (r1, r2, r3) := h
 clear h
 have HC4 := Aside0.mk H
 clear H
 go_enter Try.func9, Try.ntmps9
 go_upto_if 11 with (first | ((with_reducible refine gate_dst (N := 4) rfl ?_); refine bx_ 4 #[.int .i64 a1_0, .int .i64 a1_1, .string a1_2] 25 ?_; intro gb334 hg w5 hbox hb; have BK334 := Aside0.mk (hbox); have GW334 := gw_ hg; have GE334 := gw_ hg; replace HB := bs_ hb; clear hb hbox hg) | ((with_reducible refine gate_dst (N := 5) rfl ?_); refine bx_ 5 #[.int .i64 a2_0, .int .i64 a2_1, .string a2_2] 25 ?_; intro gb335 hg w6 hbox hb; have BK335 := Aside0.mk (hbox); have GW335 := gw_ hg; have GE335 := gw_ hg; have NB334_335 := nl_ hg BK334; have NB335_334 := ng_ hg BK334; replace BK334 := bkb_ BK334 hb; replace HB := bs_ hb; clear hb hbox hg) | ((with_reducible refine gate_dst (N := 6) rfl ?_); refine bx_ 6 #[.int .i64 0, .int .i64 0, .string (⟨#[]⟩ : ByteArray)] 25 ?_; intro gb336 hg w7 hbox hb; have BK336 := Aside0.mk (hbox); have GW336 := gw_ hg; have GE336 := gw_ hg; have NB334_336 := nl_ hg BK334; have NB336_334 := ng_ hg BK334; have NB335_336 := nl_ hg BK335; have NB336_335 := ng_ hg BK335; replace BK334 := bkb_ BK334 hb; replace BK335 := bkb_ BK335 hb; replace HB := bs_ hb; clear hb hbox hg))
 (try simp only [Act.put, List.setIfInBounds_toArray, List.set_cons_zero, List.set_cons_succ])
 go_cut [11] (fun v11 wc => ∃ (kq : Nat) (x11_3 : Bool), v11 = .bool x11_3 ∧ Aside0 (impl_Reckon.j0 kq a0 a0 x11_3 a1_0 a1_1 a1_2 a2_0 a2_1 a2_2 = some (r1, r2, r3)) ∧ Aside0 (kq ≤ k) ∧ Aside0 (wc.heap[gb334]? = some (.cells #[.int .i64 a1_0, .int .i64 a1_1, .string a1_2] 25 (0, 0))) ∧ Aside0 (wc.heap[gb335]? = some (.cells #[.int .i64 a2_0, .int .i64 a2_1, .string a2_2] 25 (0, 0))) ∧ Aside0 (wc.heap[gb336]? = some (.cells #[.int .i64 0, .int .i64 0, .string (⟨#[]⟩ : ByteArray)] 25 (0, 0))) ∧ Aside0 (Below w.heap.size w wc))
 case first =>
  have H := HC4.out
  clear HC4
  by_cases c8 : a0.toList = ([43] : List UInt8)
  ·rw [if_pos c8] at H
   have c8b0 : (a0.toList == ([43] : List UInt8)) = true := beq_iff_eq.mpr c8
   have c8b1 : (a0.toList != ([43] : List UInt8)) = false := bne_eq_false_iff_eq.mpr c8
   clear c8
   (first | rw [c8b0] | (simp only [i64_w, i32_w]; rw [c8b0]) | skip)
   have H' := Aside0.mk H
   clear H
   go_wp2
   go_meet
   case rel => exact ⟨_, ((a0.toList == ([43] : List UInt8))), rs_, H', ⟨by first | omega | exact Nat.le_refl _⟩, ⟨bkx_ BK334.out⟩, ⟨bkx_ BK335.out⟩, ⟨bkx_ BK336.out⟩, ⟨bb_⟩⟩
  ·rw [if_neg c8] at H
   have c8b0 : (a0.toList == ([43] : List UInt8)) = false := beq_eq_false_iff_ne.mpr c8
   have c8b1 : (a0.toList != ([43] : List UInt8)) = true := bne_iff_ne.mpr c8
   (first | rw [c8b0] | (simp only [i64_w, i32_w]; rw [c8b0]) | skip)
   by_cases c9 : a0.toList = ([45] : List UInt8)
   ·rw [if_pos c9] at H
    have c9b0 : (a0.toList == ([45] : List UInt8)) = true := beq_iff_eq.mpr c9
    have c9b1 : (a0.toList != ([45] : List UInt8)) = false := bne_eq_false_iff_eq.mpr c9
    clear c9
    have H' := Aside0.mk H
    clear H
    go_wp2
    go_meet
    case rel => exact ⟨_, ((a0.toList == ([45] : List UInt8))), rs_, H', ⟨by first | omega | exact Nat.le_refl _⟩, ⟨bkx_ BK334.out⟩, ⟨bkx_ BK335.out⟩, ⟨bkx_ BK336.out⟩, ⟨bb_⟩⟩
   ·rw [if_neg c9] at H
    have c9b0 : (a0.toList == ([45] : List UInt8)) = false := beq_eq_false_iff_ne.mpr c9
    have c9b1 : (a0.toList != ([45] : List UInt8)) = true := bne_iff_ne.mpr c9
    by_cases c10 : a0.toList = ([42] : List UInt8)
    ·rw [if_pos c10] at H
     have c10b0 : (a0.toList == ([42] : List UInt8)) = true := beq_iff_eq.mpr c10
     have c10b1 : (a0.toList != ([42] : List UInt8)) = false := bne_eq_false_iff_eq.mpr c10
     clear c10
     have H' := Aside0.mk H
     clear H
     go_wp2
     go_meet
     case rel => exact ⟨_, ((a0.toList == ([42] : List UInt8))), rs_, H', ⟨by first | omega | exact Nat.le_refl _⟩, ⟨bkx_ BK334.out⟩, ⟨bkx_ BK335.out⟩, ⟨bkx_ BK336.out⟩, ⟨bb_⟩⟩
    ·rw [if_neg c10] at H
     have c10b0 : (a0.toList == ([42] : List UInt8)) = false := beq_eq_false_iff_ne.mpr c10
     have c10b1 : (a0.toList != ([42] : List UInt8)) = true := bne_iff_ne.mpr c10
     have H' := Aside0.mk H
     clear H
     go_wp2
     go_meet
     case rel => exact ⟨_, ((a0.toList == ([47] : List UInt8))), rs_, H', ⟨by first | omega | exact Nat.le_refl _⟩, ⟨bkx_ BK334.out⟩, ⟨bkx_ BK335.out⟩, ⟨bkx_ BK336.out⟩, ⟨bb_⟩⟩
 case rest =>
  clear HC4
  try clear c1
  try clear p2
  try clear c8
  try clear c8b0
  try clear c8b1
  try clear c9
  try clear c9b0
  try clear c9b1
  try clear c10
  try clear c10b0
  try clear c10b1
  obtain ⟨kq, x11_3, rfl, HA, HJ3, BK334, BK335, BK336, HB⟩ := hcut
  cases kq with
  | zero => exact absurd HA.out (by simp [impl_Reckon.j0])
  | succ kj3 =>
   have H := HA.out
   clear HA
   simp only [impl_Reckon.j0] at H
   by_cases c11 : x11_3 = true
   ·subst c11
    have H1 : (if a1_0 = 1 then (impl_Reckon.j1 kj3 a0 (a2_0 != 1) a1_0 a1_1 a1_2 a2_0 a2_1 a2_2) else (impl_Reckon.j1 kj3 a0 true a1_0 a1_1 a1_2 a2_0 a2_1 a2_2)) = some (r1, r2, r3) := by rw [if_pos rfl] at H; exact H
    clear H
    have H := H1
    clear H1
    have HC12 := Aside0.mk H
    clear H
    go_upto_region 6 with (fail)
    go_cut [23] (fun v23 wc => ∃ (kq : Nat) (x23_11 : Bool), v23 = .bool x23_11 ∧ Aside0 (impl_Reckon.j1 kq a0 x23_11 a1_0 a1_1 a1_2 a2_0 a2_1 a2_2 = some (r1, r2, r3)) ∧ Aside0 (kq ≤ kj3) ∧ Aside0 (wc.heap[gb334]? = some (.cells #[.int .i64 a1_0, .int .i64 a1_1, .string a1_2] 25 (0, 0))) ∧ Aside0 (wc.heap[gb335]? = some (.cells #[.int .i64 a2_0, .int .i64 a2_1, .string a2_2] 25 (0, 0))) ∧ Aside0 (wc.heap[gb336]? = some (.cells #[.int .i64 0, .int .i64 0, .string (⟨#[]⟩ : ByteArray)] 25 (0, 0))) ∧ Aside0 (Below w.heap.size w wc))
    case first =>
     have H := HC12.out
     clear HC12
     by_cases c13 : a1_0 = 1
     ·rw [if_pos c13] at H
      have c13b0 : (a1_0 == 1) = true := beq_iff_eq.mpr c13
      have c13b1 : (a1_0 != 1) = false := bne_eq_false_iff_eq.mpr c13
      clear c13
      (first | rw [c13b0] | (simp only [i64_w, i32_w]; rw [c13b0]) | skip)
      have H' := Aside0.mk H
      clear H
      have hnb14 := NB334_335.out
      have hnc14 := NB335_334.out
      have hnb15 := NB334_336.out
      have hnc15 := NB336_334.out
      obtain ⟨hcz16_0, hcz16_1, hcz16_2, hfz16_0, hfz16_1, hfz16_2⟩ := b3_ BK334
      have hnb17 := NB335_336.out
      have hnc17 := NB336_335.out
      obtain ⟨hcz18_0, hcz18_1, hcz18_2, hfz18_0, hfz18_1, hfz18_2⟩ := b3_ BK335
      go_wp2
      go_meet
      case rel => exact ⟨_, ((a2_0 != 1)), rs_, H', ⟨by have := HJ3.out; first | omega | exact Nat.le_refl _⟩, ⟨bkx_ BK334.out⟩, ⟨bkx_ BK335.out⟩, ⟨bkx_ BK336.out⟩, ⟨bb_⟩⟩
     ·rw [if_neg c13] at H
      have c13b0 : (a1_0 == 1) = false := beq_eq_false_iff_ne.mpr c13
      have c13b1 : (a1_0 != 1) = true := bne_iff_ne.mpr c13
      (first | rw [c13b0] | (simp only [i64_w, i32_w]; rw [c13b0]) | skip)
      have H' := Aside0.mk H
      clear H
      have hnb19 := NB334_335.out
      have hnc19 := NB335_334.out
      have hnb20 := NB334_336.out
      have hnc20 := NB336_334.out
      obtain ⟨hcz21_0, hcz21_1, hcz21_2, hfz21_0, hfz21_1, hfz21_2⟩ := b3_ BK334
      go_wp2
      go_meet
      case rel => exact ⟨_, (true), rs_, H', ⟨by have := HJ3.out; first | omega | exact Nat.le_refl _⟩, ⟨bkx_ BK334.out⟩, ⟨bkx_ BK335.out⟩, ⟨bkx_ BK336.out⟩, ⟨bb_⟩⟩
    case rest =>
     clear HC12
     try clear c1
     try clear c2
     try clear p2
     try clear c8
     try clear c8b0
     try clear c8b1
     try clear c9
     try clear c9b0
     try clear c9b1
     try clear c10
     try clear c10b0
     try clear c10b1
     try clear c11
     try clear c13
     try clear c13b0
     try clear c13b1
     try clear c14
     try clear c15
     try clear c17
     try clear c19
     try clear c20
     try clear hcz16_0
     try clear hcz16_1
     try clear hcz16_2
     try clear hcz18_0
     try clear hcz18_1
     try clear hcz18_2
     try clear hcz21_0
     try clear hcz21_1
     try clear hcz21_2
     try clear hfz16_0
     try clear hfz16_1
     try clear hfz16_2
     try clear hfz18_0
     try clear hfz18_1
     try clear hfz18_2
     try clear hfz21_0
     try clear hfz21_1
     try clear hfz21_2
     try clear p2
     obtain ⟨kq, x23_11, rfl, HA, HJ11, BK334, BK335, BK336, HB⟩ := hcut
     cases kq with
     | zero => exact absurd HA.out (by simp [impl_Reckon.j1])
     | succ kj11 =>
      have H := HA.out
      clear HA
      simp only [impl_Reckon.j1] at H
      by_cases c22 : x23_11 = true
      ·subst c22
       have H1 : ((impl_null.f).bind fun bt337 => (some (bt337.1, bt337.2.1, bt337.2.2))) = some (r1, r2, r3) := by rw [if_pos rfl] at H; exact H
       clear H
       have H := H1
       clear H1
       replace H := Option.bind_eq_some_iff.mp H
       obtain ⟨⟨t337, t338, t339⟩, A230, H⟩ := H
       replace H : (some (t337, t338, t339)) = some (r1, r2, r3) := H
       have A23 := Aside0.mk A230
       clear A230
       simp only [Option.some.injEq, Prod.mk.injEq] at H
       obtain ⟨rfl, rfl, rfl⟩ := H
       go_wp2_with (first | ((with_reducible refine gate_callee (f := 46) rfl ?_); refine gsL_ (some 24) Try.func46 #[] ?_; (with_reducible refine (impl_null.calls  t337 t338 t339 _ A23.out).mono ?_); rintro e w24 ⟨rfl, hb⟩; refine ⟨_, rfl, ?_⟩; replace BK334 := bkb_ BK334 hb; replace BK335 := bkb_ BK335 hb; replace BK336 := bkb_ BK336 hb; replace HB := bs_ hb; (try clear hb); (try clear hb2); (try clear hk); (try clear hi); have hnb25 := NB336_334.out; have hnc25 := NB334_336.out; have hnb26 := NB336_335.out; have hnc26 := NB335_336.out; obtain ⟨hcz27_0, hcz27_1, hcz27_2, hfz27_0, hfz27_1, hfz27_2⟩ := b3_ BK336))
       refine bodyPost_ret (results_cell_row rfl _ _ gb336 25 #[.int .i64 t337, .int .i64 t338, .string t339] (0, 0) _ rfl (bp3_ (bkx_ BK336.out)) Try.underlying25 rfl (by kernel_rfl)) rfl ?_
       exact ⟨er_, bb_⟩
      ·replace c22 := Bool.eq_false_iff.mpr c22
       subst c22
       have H1 : ((impl_count.f kj11 a0 a1_1 a2_1).bind fun bt340 => (if bt340.2 = true then ((impl_number.f bt340.1).bind fun bt342 => (some (bt342.1, bt342.2.1, bt342.2.2))) else ((impl_null.f).bind fun bt345 => (some (bt345.1, bt345.2.1, bt345.2.2))))) = some (r1, r2, r3) := by rw [if_neg (show ¬ (false = true) by decide)] at H; exact H
       clear H
       have H := H1
       clear H1
       replace H := Option.bind_eq_some_iff.mp H
       obtain ⟨⟨t340, t341⟩, A280, H⟩ := H
       replace H : (if t341 = true then ((impl_number.f t340).bind fun bt342 => (some (bt342.1, bt342.2.1, bt342.2.2))) else ((impl_null.f).bind fun bt345 => (some (bt345.1, bt345.2.1, bt345.2.2)))) = some (r1, r2, r3) := H
       have A28 := Aside0.mk A280
       clear A280
       by_cases c29 : t341 = true
       ·subst c29
        have H1 : ((impl_number.f t340).bind fun bt342 => (some (bt342.1, bt342.2.1, bt342.2.2))) = some (r1, r2, r3) := by rw [if_pos rfl] at H; exact H
        clear H
        have H := H1
        clear H1
        replace H := Option.bind_eq_some_iff.mp H
        obtain ⟨⟨t342, t343, t344⟩, A300, H⟩ := H
        replace H : (some (t342, t343, t344)) = some (r1, r2, r3) := H
        have A30 := Aside0.mk A300
        clear A300
        simp only [Option.some.injEq, Prod.mk.injEq] at H
        obtain ⟨rfl, rfl, rfl⟩ := H
        have hnb31 := NB334_335.out
        have hnc31 := NB335_334.out
        have hnb32 := NB334_336.out
        have hnc32 := NB336_334.out
        obtain ⟨hcz33_0, hcz33_1, hcz33_2, hfz33_0, hfz33_1, hfz33_2⟩ := b3_ BK334
        have hnb34 := NB335_336.out
        have hnc34 := NB336_335.out
        obtain ⟨hcz35_0, hcz35_1, hcz35_2, hfz35_0, hfz35_1, hfz35_2⟩ := b3_ BK335
        go_wp2_with (first | ((with_reducible refine gate_callee (f := 47) rfl ?_); refine gsL_ (some 31) Try.func47 #[.string a0, .int .i64 a1_1, .int .i64 a2_1] ?_; (with_reducible refine (impl_count.calls kj11 a0 a1_1 a2_1 t340 true _ A28.out).mono ?_); rintro e w' ⟨rfl, ⟨nd, rfl⟩⟩; refine ⟨_, rfl, ?_⟩; (try (rw [drewN_self wc]; generalize hq_ : World.drewN wc _ = wc; have n0_ : Aside0 (wc.heap[gb334]? = some (.cells #[.int .i64 a1_0, .int .i64 a1_1, .string a1_2] 25 (0, 0))) := ⟨by rw [← hq_]; exact (bkx_ BK334.out)⟩; have n1_ : Aside0 (wc.heap[gb335]? = some (.cells #[.int .i64 a2_0, .int .i64 a2_1, .string a2_2] 25 (0, 0))) := ⟨by rw [← hq_]; exact (bkx_ BK335.out)⟩; have n2_ : Aside0 (wc.heap[gb336]? = some (.cells #[.int .i64 0, .int .i64 0, .string (⟨#[]⟩ : ByteArray)] 25 (0, 0))) := ⟨by rw [← hq_]; exact (bkx_ BK336.out)⟩; have n3_ : Aside0 (Below w.heap.size w wc) := ⟨by rw [← hq_]; exact bb_⟩; clear BK334 BK335 BK336 HB hq_; have BK334 := n0_; have BK335 := n1_; have BK336 := n2_; have HB := n3_; clear n0_ n1_ n2_ n3_))) | ((with_reducible refine gate_callee (f := 48) rfl ?_); refine gsL_ (some 38) Try.func48 #[.int .i64 t340] ?_; (with_reducible refine (impl_number.calls t340 t342 t343 t344 _ A30.out).mono ?_); rintro e w36 ⟨rfl, hb⟩; refine ⟨_, rfl, ?_⟩; replace BK334 := bkb_ BK334 hb; replace BK335 := bkb_ BK335 hb; replace BK336 := bkb_ BK336 hb; replace HB := bs_ hb; (try clear hb); (try clear hb2); (try clear hk); (try clear hi); obtain ⟨hcz37_0, hcz37_1, hcz37_2, hfz37_0, hfz37_1, hfz37_2⟩ := b3_ BK336))
        refine bodyPost_ret (results_cell_row rfl _ _ gb336 25 #[.int .i64 t342, .int .i64 t343, .string t344] (0, 0) _ rfl (bp3_ (bkx_ BK336.out)) Try.underlying25 rfl (by kernel_rfl)) rfl ?_
        exact ⟨er_, bb_⟩
       ·replace c29 := Bool.eq_false_iff.mpr c29
        subst c29
        have H1 : ((impl_null.f).bind fun bt345 => (some (bt345.1, bt345.2.1, bt345.2.2))) = some (r1, r2, r3) := by rw [if_neg (show ¬ (false = true) by decide)] at H; exact H
        clear H
        have H := H1
        clear H1
        replace H := Option.bind_eq_some_iff.mp H
        obtain ⟨⟨t345, t346, t347⟩, A380, H⟩ := H
        replace H : (some (t345, t346, t347)) = some (r1, r2, r3) := H
        have A38 := Aside0.mk A380
        clear A380
        simp only [Option.some.injEq, Prod.mk.injEq] at H
        obtain ⟨rfl, rfl, rfl⟩ := H
        have hnb39 := NB334_335.out
        have hnc39 := NB335_334.out
        have hnb40 := NB334_336.out
        have hnc40 := NB336_334.out
        obtain ⟨hcz41_0, hcz41_1, hcz41_2, hfz41_0, hfz41_1, hfz41_2⟩ := b3_ BK334
        have hnb42 := NB335_336.out
        have hnc42 := NB336_335.out
        obtain ⟨hcz43_0, hcz43_1, hcz43_2, hfz43_0, hfz43_1, hfz43_2⟩ := b3_ BK335
        go_wp2_with (first | ((with_reducible refine gate_callee (f := 47) rfl ?_); refine gsL_ (some 31) Try.func47 #[.string a0, .int .i64 a1_1, .int .i64 a2_1] ?_; (with_reducible refine (impl_count.calls kj11 a0 a1_1 a2_1 t340 false _ A28.out).mono ?_); rintro e w' ⟨rfl, ⟨nd, rfl⟩⟩; refine ⟨_, rfl, ?_⟩; (try (rw [drewN_self wc]; generalize hq_ : World.drewN wc _ = wc; have n0_ : Aside0 (wc.heap[gb334]? = some (.cells #[.int .i64 a1_0, .int .i64 a1_1, .string a1_2] 25 (0, 0))) := ⟨by rw [← hq_]; exact (bkx_ BK334.out)⟩; have n1_ : Aside0 (wc.heap[gb335]? = some (.cells #[.int .i64 a2_0, .int .i64 a2_1, .string a2_2] 25 (0, 0))) := ⟨by rw [← hq_]; exact (bkx_ BK335.out)⟩; have n2_ : Aside0 (wc.heap[gb336]? = some (.cells #[.int .i64 0, .int .i64 0, .string (⟨#[]⟩ : ByteArray)] 25 (0, 0))) := ⟨by rw [← hq_]; exact (bkx_ BK336.out)⟩; have n3_ : Aside0 (Below w.heap.size w wc) := ⟨by rw [← hq_]; exact bb_⟩; clear BK334 BK335 BK336 HB hq_; have BK334 := n0_; have BK335 := n1_; have BK336 := n2_; have HB := n3_; clear n0_ n1_ n2_ n3_))) | ((with_reducible refine gate_callee (f := 46) rfl ?_); refine gsL_ (some 36) Try.func46 #[] ?_; (with_reducible refine (impl_null.calls  t345 t346 t347 _ A38.out).mono ?_); rintro e w44 ⟨rfl, hb⟩; refine ⟨_, rfl, ?_⟩; replace BK334 := bkb_ BK334 hb; replace BK335 := bkb_ BK335 hb; replace BK336 := bkb_ BK336 hb; replace HB := bs_ hb; (try clear hb); (try clear hb2); (try clear hk); (try clear hi); obtain ⟨hcz45_0, hcz45_1, hcz45_2, hfz45_0, hfz45_1, hfz45_2⟩ := b3_ BK336))
        refine bodyPost_ret (results_cell_row rfl _ _ gb336 25 #[.int .i64 t345, .int .i64 t346, .string t347] (0, 0) _ rfl (bp3_ (bkx_ BK336.out)) Try.underlying25 rfl (by kernel_rfl)) rfl ?_
        exact ⟨er_, bb_⟩
   ·replace c11 := Bool.eq_false_iff.mpr c11
    subst c11
    have H1 : (if a0.toList = ([61] : List UInt8) then (impl_Reckon.j2 kj3 a0 a0 (a0.toList == ([61] : List UInt8)) a1_0 a1_1 a1_2 a2_0 a2_1 a2_2) else (impl_Reckon.j2 kj3 a0 a0 (a0.toList == ([60] : List UInt8)) a1_0 a1_1 a1_2 a2_0 a2_1 a2_2)) = some (r1, r2, r3) := by rw [if_neg (show ¬ (false = true) by decide)] at H; exact H
    clear H
    have H := H1
    clear H1
    have HC46 := Aside0.mk H
    clear H
    go_upto_if 39 with (fail)
    go_cut [39] (fun v39 wc => ∃ (kq : Nat) (x39_45 : Bool), v39 = .bool x39_45 ∧ Aside0 (impl_Reckon.j2 kq a0 a0 x39_45 a1_0 a1_1 a1_2 a2_0 a2_1 a2_2 = some (r1, r2, r3)) ∧ Aside0 (kq ≤ kj3) ∧ Aside0 (wc.heap[gb334]? = some (.cells #[.int .i64 a1_0, .int .i64 a1_1, .string a1_2] 25 (0, 0))) ∧ Aside0 (wc.heap[gb335]? = some (.cells #[.int .i64 a2_0, .int .i64 a2_1, .string a2_2] 25 (0, 0))) ∧ Aside0 (wc.heap[gb336]? = some (.cells #[.int .i64 0, .int .i64 0, .string (⟨#[]⟩ : ByteArray)] 25 (0, 0))) ∧ Aside0 (Below w.heap.size w wc))
    case first =>
     have H := HC46.out
     clear HC46
     by_cases c47 : a0.toList = ([61] : List UInt8)
     ·rw [if_pos c47] at H
      have c47b0 : (a0.toList == ([61] : List UInt8)) = true := beq_iff_eq.mpr c47
      have c47b1 : (a0.toList != ([61] : List UInt8)) = false := bne_eq_false_iff_eq.mpr c47
      clear c47
      (first | rw [c47b0] | (simp only [i64_w, i32_w]; rw [c47b0]) | skip)
      have H' := Aside0.mk H
      clear H
      go_wp2
      go_meet
      case rel => exact ⟨_, ((a0.toList == ([61] : List UInt8))), rs_, H', ⟨by have := HJ3.out; first | omega | exact Nat.le_refl _⟩, ⟨bkx_ BK334.out⟩, ⟨bkx_ BK335.out⟩, ⟨bkx_ BK336.out⟩, ⟨bb_⟩⟩
     ·rw [if_neg c47] at H
      have c47b0 : (a0.toList == ([61] : List UInt8)) = false := beq_eq_false_iff_ne.mpr c47
      have c47b1 : (a0.toList != ([61] : List UInt8)) = true := bne_iff_ne.mpr c47
      (first | rw [c47b0] | (simp only [i64_w, i32_w]; rw [c47b0]) | skip)
      have H' := Aside0.mk H
      clear H
      go_wp2
      go_meet
      case rel => exact ⟨_, ((a0.toList == ([60] : List UInt8))), rs_, H', ⟨by have := HJ3.out; first | omega | exact Nat.le_refl _⟩, ⟨bkx_ BK334.out⟩, ⟨bkx_ BK335.out⟩, ⟨bkx_ BK336.out⟩, ⟨bb_⟩⟩
    case rest =>
     clear HC46
     try clear c1
     try clear c2
     try clear p2
     try clear c3
     try clear c4
     try clear c8
     try clear c8b0
     try clear c8b1
     try clear c9
     try clear c9b0
     try clear c9b1
     try clear c10
     try clear c10b0
     try clear c10b1
     try clear c11
     try clear c13
     try clear c13b0
     try clear c13b1
     try clear c14
     try clear c15
     try clear c17
     try clear c19
     try clear c20
     try clear c22
     try clear c25
     try clear c26
     try clear c29
     try clear c31
     try clear c32
     try clear c34
     try clear c39
     try clear c40
     try clear c42
     try clear c46
     try clear c47
     try clear c47b0
     try clear c47b1
     try clear hcz16_0
     try clear hcz16_1
     try clear hcz16_2
     try clear hcz18_0
     try clear hcz18_1
     try clear hcz18_2
     try clear hcz21_0
     try clear hcz21_1
     try clear hcz21_2
     try clear hcz27_0
     try clear hcz27_1
     try clear hcz27_2
     try clear hcz33_0
     try clear hcz33_1
     try clear hcz33_2
     try clear hcz35_0
     try clear hcz35_1
     try clear hcz35_2
     try clear hcz37_0
     try clear hcz37_1
     try clear hcz37_2
     try clear hcz41_0
     try clear hcz41_1
     try clear hcz41_2
     try clear hcz43_0
     try clear hcz43_1
     try clear hcz43_2
     try clear hcz45_0
     try clear hcz45_1
     try clear hcz45_2
     try clear hfz16_0
     try clear hfz16_1
     try clear hfz16_2
     try clear hfz18_0
     try clear hfz18_1
     try clear hfz18_2
     try clear hfz21_0
     try clear hfz21_1
     try clear hfz21_2
     try clear hfz27_0
     try clear hfz27_1
     try clear hfz27_2
     try clear hfz33_0
     try clear hfz33_1
     try clear hfz33_2
     try clear hfz35_0
     try clear hfz35_1
     try clear hfz35_2
     try clear hfz37_0
     try clear hfz37_1
     try clear hfz37_2
     try clear hfz41_0
     try clear hfz41_1
     try clear hfz41_2
     try clear hfz43_0
     try clear hfz43_1
     try clear hfz43_2
     try clear hfz45_0
     try clear hfz45_1
     try clear hfz45_2
     try clear p2
     obtain ⟨kq, x39_45, rfl, HA, HJ45, BK334, BK335, BK336, HB⟩ := hcut
     cases kq with
     | zero => exact absurd HA.out (by simp [impl_Reckon.j2])
     | succ kj45 =>
      have H := HA.out
      clear HA
      simp only [impl_Reckon.j2] at H
      by_cases c48 : x39_45 = true
      ·subst c48
       have H1 : (if a1_0 = a2_0 then (impl_Reckon.j3 kj45 a0 (a1_0 == 0) a1_0 a1_1 a1_2 a2_0 a2_1 a2_2) else (impl_Reckon.j3 kj45 a0 true a1_0 a1_1 a1_2 a2_0 a2_1 a2_2)) = some (r1, r2, r3) := by rw [if_pos rfl] at H; exact H
       clear H
       have H := H1
       clear H1
       have HC49 := Aside0.mk H
       clear H
       go_upto_region 14 with (fail)
       go_cut [51] (fun v51 wc => ∃ (kq : Nat) (x51_48 : Bool), v51 = .bool x51_48 ∧ Aside0 (impl_Reckon.j3 kq a0 x51_48 a1_0 a1_1 a1_2 a2_0 a2_1 a2_2 = some (r1, r2, r3)) ∧ Aside0 (kq ≤ kj45) ∧ Aside0 (wc.heap[gb334]? = some (.cells #[.int .i64 a1_0, .int .i64 a1_1, .string a1_2] 25 (0, 0))) ∧ Aside0 (wc.heap[gb335]? = some (.cells #[.int .i64 a2_0, .int .i64 a2_1, .string a2_2] 25 (0, 0))) ∧ Aside0 (wc.heap[gb336]? = some (.cells #[.int .i64 0, .int .i64 0, .string (⟨#[]⟩ : ByteArray)] 25 (0, 0))) ∧ Aside0 (Below w.heap.size w wc))
       case first =>
        have H := HC49.out
        clear HC49
        by_cases c50 : a1_0 = a2_0
        ·rw [if_pos c50] at H
         have c50b0 : (a1_0 == a2_0) = true := beq_iff_eq.mpr c50
         have c50b1 : (a1_0 != a2_0) = false := bne_eq_false_iff_eq.mpr c50
         clear c50
         (first | rw [c50b0] | (simp only [i64_w, i32_w]; rw [c50b0]) | skip)
         have H' := Aside0.mk H
         clear H
         have hnb51 := NB334_335.out
         have hnc51 := NB335_334.out
         have hnb52 := NB334_336.out
         have hnc52 := NB336_334.out
         obtain ⟨hcz53_0, hcz53_1, hcz53_2, hfz53_0, hfz53_1, hfz53_2⟩ := b3_ BK334
         have hnb54 := NB335_336.out
         have hnc54 := NB336_335.out
         obtain ⟨hcz55_0, hcz55_1, hcz55_2, hfz55_0, hfz55_1, hfz55_2⟩ := b3_ BK335
         go_wp2
         go_meet
         case rel => exact ⟨_, ((a1_0 == 0)), rs_, H', ⟨by have := HJ3.out; have := HJ45.out; first | omega | exact Nat.le_refl _⟩, ⟨bkx_ BK334.out⟩, ⟨bkx_ BK335.out⟩, ⟨bkx_ BK336.out⟩, ⟨bb_⟩⟩
        ·rw [if_neg c50] at H
         have c50b0 : (a1_0 == a2_0) = false := beq_eq_false_iff_ne.mpr c50
         have c50b1 : (a1_0 != a2_0) = true := bne_iff_ne.mpr c50
         (first | rw [c50b0] | (simp only [i64_w, i32_w]; rw [c50b0]) | skip)
         have H' := Aside0.mk H
         clear H
         have hnb56 := NB334_335.out
         have hnc56 := NB335_334.out
         have hnb57 := NB334_336.out
         have hnc57 := NB336_334.out
         obtain ⟨hcz58_0, hcz58_1, hcz58_2, hfz58_0, hfz58_1, hfz58_2⟩ := b3_ BK334
         have hnb59 := NB335_336.out
         have hnc59 := NB336_335.out
         obtain ⟨hcz60_0, hcz60_1, hcz60_2, hfz60_0, hfz60_1, hfz60_2⟩ := b3_ BK335
         go_wp2
         go_meet
         case rel => exact ⟨_, (true), rs_, H', ⟨by have := HJ3.out; have := HJ45.out; first | omega | exact Nat.le_refl _⟩, ⟨bkx_ BK334.out⟩, ⟨bkx_ BK335.out⟩, ⟨bkx_ BK336.out⟩, ⟨bb_⟩⟩
       case rest =>
        clear HC49
        try clear c1
        try clear c2
        try clear p2
        try clear c3
        try clear c4
        try clear c5
        try clear c8
        try clear c8b0
        try clear c8b1
        try clear c9
        try clear c9b0
        try clear c9b1
        try clear c10
        try clear c10b0
        try clear c10b1
        try clear c11
        try clear c13
        try clear c13b0
        try clear c13b1
        try clear c14
        try clear c15
        try clear c17
        try clear c19
        try clear c20
        try clear c22
        try clear c25
        try clear c26
        try clear c29
        try clear c31
        try clear c32
        try clear c34
        try clear c39
        try clear c40
        try clear c42
        try clear c46
        try clear c47
        try clear c47b0
        try clear c47b1
        try clear c48
        try clear c50
        try clear c50b0
        try clear c50b1
        try clear c51
        try clear c52
        try clear c54
        try clear c56
        try clear c57
        try clear c59
        try clear hcz16_0
        try clear hcz16_1
        try clear hcz16_2
        try clear hcz18_0
        try clear hcz18_1
        try clear hcz18_2
        try clear hcz21_0
        try clear hcz21_1
        try clear hcz21_2
        try clear hcz27_0
        try clear hcz27_1
        try clear hcz27_2
        try clear hcz33_0
        try clear hcz33_1
        try clear hcz33_2
        try clear hcz35_0
        try clear hcz35_1
        try clear hcz35_2
        try clear hcz37_0
        try clear hcz37_1
        try clear hcz37_2
        try clear hcz41_0
        try clear hcz41_1
        try clear hcz41_2
        try clear hcz43_0
        try clear hcz43_1
        try clear hcz43_2
        try clear hcz45_0
        try clear hcz45_1
        try clear hcz45_2
        try clear hcz53_0
        try clear hcz53_1
        try clear hcz53_2
        try clear hcz55_0
        try clear hcz55_1
        try clear hcz55_2
        try clear hcz58_0
        try clear hcz58_1
        try clear hcz58_2
        try clear hcz60_0
        try clear hcz60_1
        try clear hcz60_2
        try clear hfz16_0
        try clear hfz16_1
        try clear hfz16_2
        try clear hfz18_0
        try clear hfz18_1
        try clear hfz18_2
        try clear hfz21_0
        try clear hfz21_1
        try clear hfz21_2
        try clear hfz27_0
        try clear hfz27_1
        try clear hfz27_2
        try clear hfz33_0
        try clear hfz33_1
        try clear hfz33_2
        try clear hfz35_0
        try clear hfz35_1
        try clear hfz35_2
        try clear hfz37_0
        try clear hfz37_1
        try clear hfz37_2
        try clear hfz41_0
        try clear hfz41_1
        try clear hfz41_2
        try clear hfz43_0
        try clear hfz43_1
        try clear hfz43_2
        try clear hfz45_0
        try clear hfz45_1
        try clear hfz45_2
        try clear hfz53_0
        try clear hfz53_1
        try clear hfz53_2
        try clear hfz55_0
        try clear hfz55_1
        try clear hfz55_2
        try clear hfz58_0
        try clear hfz58_1
        try clear hfz58_2
        try clear hfz60_0
        try clear hfz60_1
        try clear hfz60_2
        try clear p2
        obtain ⟨kq, x51_48, rfl, HA, HJ48, BK334, BK335, BK336, HB⟩ := hcut
        cases kq with
        | zero => exact absurd HA.out (by simp [impl_Reckon.j3])
        | succ kj48 =>
         have H := HA.out
         clear HA
         simp only [impl_Reckon.j3] at H
         by_cases c61 : x51_48 = true
         ·subst c61
          have H1 : ((impl_null.f).bind fun bt348 => (some (bt348.1, bt348.2.1, bt348.2.2))) = some (r1, r2, r3) := by rw [if_pos rfl] at H; exact H
          clear H
          have H := H1
          clear H1
          replace H := Option.bind_eq_some_iff.mp H
          obtain ⟨⟨t348, t349, t350⟩, A620, H⟩ := H
          replace H : (some (t348, t349, t350)) = some (r1, r2, r3) := H
          have A62 := Aside0.mk A620
          clear A620
          simp only [Option.some.injEq, Prod.mk.injEq] at H
          obtain ⟨rfl, rfl, rfl⟩ := H
          go_wp2_with (first | ((with_reducible refine gate_callee (f := 46) rfl ?_); refine gsL_ (some 52) Try.func46 #[] ?_; (with_reducible refine (impl_null.calls  t348 t349 t350 _ A62.out).mono ?_); rintro e w63 ⟨rfl, hb⟩; refine ⟨_, rfl, ?_⟩; replace BK334 := bkb_ BK334 hb; replace BK335 := bkb_ BK335 hb; replace BK336 := bkb_ BK336 hb; replace HB := bs_ hb; (try clear hb); (try clear hb2); (try clear hk); (try clear hi); have hnb64 := NB336_334.out; have hnc64 := NB334_336.out; have hnb65 := NB336_335.out; have hnc65 := NB335_336.out; obtain ⟨hcz66_0, hcz66_1, hcz66_2, hfz66_0, hfz66_1, hfz66_2⟩ := b3_ BK336))
          refine bodyPost_ret (results_cell_row rfl _ _ gb336 25 #[.int .i64 t348, .int .i64 t349, .string t350] (0, 0) _ rfl (bp3_ (bkx_ BK336.out)) Try.underlying25 rfl (by kernel_rfl)) rfl ?_
          exact ⟨er_, bb_⟩
         ·replace c61 := Bool.eq_false_iff.mpr c61
          subst c61
          have H1 : ((impl_CompareValue.f kj48 a1_0 a1_1 a1_2 a2_0 a2_1 a2_2).bind fun t351 => (if a0.toList = ([61] : List UInt8) then (if t351 = 0 then ((impl_flag.f true).bind fun bt352 => (some (bt352.1, bt352.2.1, bt352.2.2))) else (if a0.toList = ([60] : List UInt8) then ((impl_flag.f (decide (t351 < 0))).bind fun bt355 => (some (bt355.1, bt355.2.1, bt355.2.2))) else ((impl_flag.f false).bind fun bt358 => (some (bt358.1, bt358.2.1, bt358.2.2))))) else (if a0.toList = ([60] : List UInt8) then ((impl_flag.f (decide (t351 < 0))).bind fun bt361 => (some (bt361.1, bt361.2.1, bt361.2.2))) else ((impl_flag.f false).bind fun bt364 => (some (bt364.1, bt364.2.1, bt364.2.2)))))) = some (r1, r2, r3) := by rw [if_neg (show ¬ (false = true) by decide)] at H; exact H
          clear H
          have H := H1
          clear H1
          replace H := Option.bind_eq_some_iff.mp H
          obtain ⟨t351, A670, H⟩ := H
          replace H : (if a0.toList = ([61] : List UInt8) then (if t351 = 0 then ((impl_flag.f true).bind fun bt352 => (some (bt352.1, bt352.2.1, bt352.2.2))) else (if a0.toList = ([60] : List UInt8) then ((impl_flag.f (decide (t351 < 0))).bind fun bt355 => (some (bt355.1, bt355.2.1, bt355.2.2))) else ((impl_flag.f false).bind fun bt358 => (some (bt358.1, bt358.2.1, bt358.2.2))))) else (if a0.toList = ([60] : List UInt8) then ((impl_flag.f (decide (t351 < 0))).bind fun bt361 => (some (bt361.1, bt361.2.1, bt361.2.2))) else ((impl_flag.f false).bind fun bt364 => (some (bt364.1, bt364.2.1, bt364.2.2))))) = some (r1, r2, r3) := H
          have A67 := Aside0.mk A670
          clear A670
          by_cases c68 : a0.toList = ([61] : List UInt8)
          ·rw [if_pos c68] at H
           have c68b0 : (a0.toList == ([61] : List UInt8)) = true := beq_iff_eq.mpr c68
           have c68b1 : (a0.toList != ([61] : List UInt8)) = false := bne_eq_false_iff_eq.mpr c68
           clear c68
           by_cases c69 : t351 = 0
           ·rw [if_pos c69] at H
            have c69b0 : (t351 == 0) = true := beq_iff_eq.mpr c69
            have c69b1 : (t351 != 0) = false := bne_eq_false_iff_eq.mpr c69
            clear c69
            replace H := Option.bind_eq_some_iff.mp H
            obtain ⟨⟨t352, t353, t354⟩, A700, H⟩ := H
            replace H : (some (t352, t353, t354)) = some (r1, r2, r3) := H
            have A70 := Aside0.mk A700
            clear A700
            simp only [Option.some.injEq, Prod.mk.injEq] at H
            obtain ⟨rfl, rfl, rfl⟩ := H
            have hnb71 := NB334_335.out
            have hnc71 := NB335_334.out
            have hnb72 := NB334_336.out
            have hnc72 := NB336_334.out
            obtain ⟨hcz73_0, hcz73_1, hcz73_2, hfz73_0, hfz73_1, hfz73_2⟩ := b3_ BK334
            have hnb74 := NB335_336.out
            have hnc74 := NB336_335.out
            obtain ⟨hcz75_0, hcz75_1, hcz75_2, hfz75_0, hfz75_1, hfz75_2⟩ := b3_ BK335
            go_wp2_with (first | ((with_reducible refine gate_callee (f := 49) rfl ?_); refine gsL_ (some 55) Try.func49 #[.agg #[.int .i64 a1_0, .int .i64 a1_1, .string a1_2], .agg #[.int .i64 a2_0, .int .i64 a2_1, .string a2_2]] ?_; (with_reducible refine (impl_CompareValue.calls kj48 a1_0 a1_1 a1_2 a2_0 a2_1 a2_2 t351 _ A67.out).mono ?_); rintro e w76 ⟨rfl, hb⟩; refine ⟨_, rfl, ?_⟩; replace BK334 := bkb_ BK334 hb; replace BK335 := bkb_ BK335 hb; replace BK336 := bkb_ BK336 hb; replace HB := bs_ hb; (try clear hb); (try clear hb2); (try clear hk); (try clear hi)) | ((with_reducible refine gate_callee (f := 50) rfl ?_); refine gsL_ (some 70) Try.func50 #[.bool true] ?_; (with_reducible refine (impl_flag.calls true t352 t353 t354 _ A70.out).mono ?_); rintro e w77 ⟨rfl, hb⟩; refine ⟨_, rfl, ?_⟩; replace BK334 := bkb_ BK334 hb; replace BK335 := bkb_ BK335 hb; replace BK336 := bkb_ BK336 hb; replace HB := bs_ hb; (try clear hb); (try clear hb2); (try clear hk); (try clear hi); obtain ⟨hcz78_0, hcz78_1, hcz78_2, hfz78_0, hfz78_1, hfz78_2⟩ := b3_ BK336))
            refine bodyPost_ret (results_cell_row rfl _ _ gb336 25 #[.int .i64 t352, .int .i64 t353, .string t354] (0, 0) _ rfl (bp3_ (bkx_ BK336.out)) Try.underlying25 rfl (by kernel_rfl)) rfl ?_
            exact ⟨er_, bb_⟩
           ·rw [if_neg c69] at H
            have c69b0 : (t351 == 0) = false := beq_eq_false_iff_ne.mpr c69
            have c69b1 : (t351 != 0) = true := bne_iff_ne.mpr c69
            by_cases c79 : a0.toList = ([60] : List UInt8)
            ·rw [if_pos c79] at H
             have c79b0 : (a0.toList == ([60] : List UInt8)) = true := beq_iff_eq.mpr c79
             have c79b1 : (a0.toList != ([60] : List UInt8)) = false := bne_eq_false_iff_eq.mpr c79
             clear c79
             replace H := Option.bind_eq_some_iff.mp H
             obtain ⟨⟨t355, t356, t357⟩, A800, H⟩ := H
             replace H : (some (t355, t356, t357)) = some (r1, r2, r3) := H
             have A80 := Aside0.mk A800
             clear A800
             simp only [Option.some.injEq, Prod.mk.injEq] at H
             obtain ⟨rfl, rfl, rfl⟩ := H
             have hnb81 := NB334_335.out
             have hnc81 := NB335_334.out
             have hnb82 := NB334_336.out
             have hnc82 := NB336_334.out
             obtain ⟨hcz83_0, hcz83_1, hcz83_2, hfz83_0, hfz83_1, hfz83_2⟩ := b3_ BK334
             have hnb84 := NB335_336.out
             have hnc84 := NB336_335.out
             obtain ⟨hcz85_0, hcz85_1, hcz85_2, hfz85_0, hfz85_1, hfz85_2⟩ := b3_ BK335
             go_wp2_with (first | ((with_reducible refine gate_callee (f := 49) rfl ?_); refine gsL_ (some 55) Try.func49 #[.agg #[.int .i64 a1_0, .int .i64 a1_1, .string a1_2], .agg #[.int .i64 a2_0, .int .i64 a2_1, .string a2_2]] ?_; (with_reducible refine (impl_CompareValue.calls kj48 a1_0 a1_1 a1_2 a2_0 a2_1 a2_2 t351 _ A67.out).mono ?_); rintro e w86 ⟨rfl, hb⟩; refine ⟨_, rfl, ?_⟩; replace BK334 := bkb_ BK334 hb; replace BK335 := bkb_ BK335 hb; replace BK336 := bkb_ BK336 hb; replace HB := bs_ hb; (try clear hb); (try clear hb2); (try clear hk); (try clear hi)) | ((with_reducible refine gate_callee (f := 50) rfl ?_); refine gsL_ (some 70) Try.func50 #[.bool (decide (t351 < 0))] ?_; (with_reducible refine (impl_flag.calls (decide (t351 < 0)) t355 t356 t357 _ A80.out).mono ?_); rintro e w87 ⟨rfl, hb⟩; refine ⟨_, rfl, ?_⟩; replace BK334 := bkb_ BK334 hb; replace BK335 := bkb_ BK335 hb; replace BK336 := bkb_ BK336 hb; replace HB := bs_ hb; (try clear hb); (try clear hb2); (try clear hk); (try clear hi); obtain ⟨hcz88_0, hcz88_1, hcz88_2, hfz88_0, hfz88_1, hfz88_2⟩ := b3_ BK336))
             refine bodyPost_ret (results_cell_row rfl _ _ gb336 25 #[.int .i64 t355, .int .i64 t356, .string t357] (0, 0) _ rfl (bp3_ (bkx_ BK336.out)) Try.underlying25 rfl (by kernel_rfl)) rfl ?_
             exact ⟨er_, bb_⟩
            ·rw [if_neg c79] at H
             have c79b0 : (a0.toList == ([60] : List UInt8)) = false := beq_eq_false_iff_ne.mpr c79
             have c79b1 : (a0.toList != ([60] : List UInt8)) = true := bne_iff_ne.mpr c79
             replace H := Option.bind_eq_some_iff.mp H
             obtain ⟨⟨t358, t359, t360⟩, A890, H⟩ := H
             replace H : (some (t358, t359, t360)) = some (r1, r2, r3) := H
             have A89 := Aside0.mk A890
             clear A890
             simp only [Option.some.injEq, Prod.mk.injEq] at H
             obtain ⟨rfl, rfl, rfl⟩ := H
             have hnb90 := NB334_335.out
             have hnc90 := NB335_334.out
             have hnb91 := NB334_336.out
             have hnc91 := NB336_334.out
             obtain ⟨hcz92_0, hcz92_1, hcz92_2, hfz92_0, hfz92_1, hfz92_2⟩ := b3_ BK334
             have hnb93 := NB335_336.out
             have hnc93 := NB336_335.out
             obtain ⟨hcz94_0, hcz94_1, hcz94_2, hfz94_0, hfz94_1, hfz94_2⟩ := b3_ BK335
             go_wp2_with (first | ((with_reducible refine gate_callee (f := 49) rfl ?_); refine gsL_ (some 55) Try.func49 #[.agg #[.int .i64 a1_0, .int .i64 a1_1, .string a1_2], .agg #[.int .i64 a2_0, .int .i64 a2_1, .string a2_2]] ?_; (with_reducible refine (impl_CompareValue.calls kj48 a1_0 a1_1 a1_2 a2_0 a2_1 a2_2 t351 _ A67.out).mono ?_); rintro e w95 ⟨rfl, hb⟩; refine ⟨_, rfl, ?_⟩; replace BK334 := bkb_ BK334 hb; replace BK335 := bkb_ BK335 hb; replace BK336 := bkb_ BK336 hb; replace HB := bs_ hb; (try clear hb); (try clear hb2); (try clear hk); (try clear hi)) | ((with_reducible refine gate_callee (f := 50) rfl ?_); refine gsL_ (some 70) Try.func50 #[.bool false] ?_; (with_reducible refine (impl_flag.calls false t358 t359 t360 _ A89.out).mono ?_); rintro e w96 ⟨rfl, hb⟩; refine ⟨_, rfl, ?_⟩; replace BK334 := bkb_ BK334 hb; replace BK335 := bkb_ BK335 hb; replace BK336 := bkb_ BK336 hb; replace HB := bs_ hb; (try clear hb); (try clear hb2); (try clear hk); (try clear hi); obtain ⟨hcz97_0, hcz97_1, hcz97_2, hfz97_0, hfz97_1, hfz97_2⟩ := b3_ BK336))
             refine bodyPost_ret (results_cell_row rfl _ _ gb336 25 #[.int .i64 t358, .int .i64 t359, .string t360] (0, 0) _ rfl (bp3_ (bkx_ BK336.out)) Try.underlying25 rfl (by kernel_rfl)) rfl ?_
             exact ⟨er_, bb_⟩
          ·rw [if_neg c68] at H
           have c68b0 : (a0.toList == ([61] : List UInt8)) = false := beq_eq_false_iff_ne.mpr c68
           have c68b1 : (a0.toList != ([61] : List UInt8)) = true := bne_iff_ne.mpr c68
           by_cases c98 : a0.toList = ([60] : List UInt8)
           ·rw [if_pos c98] at H
            have c98b0 : (a0.toList == ([60] : List UInt8)) = true := beq_iff_eq.mpr c98
            have c98b1 : (a0.toList != ([60] : List UInt8)) = false := bne_eq_false_iff_eq.mpr c98
            clear c98
            replace H := Option.bind_eq_some_iff.mp H
            obtain ⟨⟨t361, t362, t363⟩, A990, H⟩ := H
            replace H : (some (t361, t362, t363)) = some (r1, r2, r3) := H
            have A99 := Aside0.mk A990
            clear A990
            simp only [Option.some.injEq, Prod.mk.injEq] at H
            obtain ⟨rfl, rfl, rfl⟩ := H
            have hnb100 := NB334_335.out
            have hnc100 := NB335_334.out
            have hnb101 := NB334_336.out
            have hnc101 := NB336_334.out
            obtain ⟨hcz102_0, hcz102_1, hcz102_2, hfz102_0, hfz102_1, hfz102_2⟩ := b3_ BK334
            have hnb103 := NB335_336.out
            have hnc103 := NB336_335.out
            obtain ⟨hcz104_0, hcz104_1, hcz104_2, hfz104_0, hfz104_1, hfz104_2⟩ := b3_ BK335
            go_wp2_with (first | ((with_reducible refine gate_callee (f := 49) rfl ?_); refine gsL_ (some 55) Try.func49 #[.agg #[.int .i64 a1_0, .int .i64 a1_1, .string a1_2], .agg #[.int .i64 a2_0, .int .i64 a2_1, .string a2_2]] ?_; (with_reducible refine (impl_CompareValue.calls kj48 a1_0 a1_1 a1_2 a2_0 a2_1 a2_2 t351 _ A67.out).mono ?_); rintro e w105 ⟨rfl, hb⟩; refine ⟨_, rfl, ?_⟩; replace BK334 := bkb_ BK334 hb; replace BK335 := bkb_ BK335 hb; replace BK336 := bkb_ BK336 hb; replace HB := bs_ hb; (try clear hb); (try clear hb2); (try clear hk); (try clear hi)) | ((with_reducible refine gate_callee (f := 50) rfl ?_); refine gsL_ (some 70) Try.func50 #[.bool (decide (t351 < 0))] ?_; (with_reducible refine (impl_flag.calls (decide (t351 < 0)) t361 t362 t363 _ A99.out).mono ?_); rintro e w106 ⟨rfl, hb⟩; refine ⟨_, rfl, ?_⟩; replace BK334 := bkb_ BK334 hb; replace BK335 := bkb_ BK335 hb; replace BK336 := bkb_ BK336 hb; replace HB := bs_ hb; (try clear hb); (try clear hb2); (try clear hk); (try clear hi); obtain ⟨hcz107_0, hcz107_1, hcz107_2, hfz107_0, hfz107_1, hfz107_2⟩ := b3_ BK336))
            refine bodyPost_ret (results_cell_row rfl _ _ gb336 25 #[.int .i64 t361, .int .i64 t362, .string t363] (0, 0) _ rfl (bp3_ (bkx_ BK336.out)) Try.underlying25 rfl (by kernel_rfl)) rfl ?_
            exact ⟨er_, bb_⟩
           ·rw [if_neg c98] at H
            have c98b0 : (a0.toList == ([60] : List UInt8)) = false := beq_eq_false_iff_ne.mpr c98
            have c98b1 : (a0.toList != ([60] : List UInt8)) = true := bne_iff_ne.mpr c98
            replace H := Option.bind_eq_some_iff.mp H
            obtain ⟨⟨t364, t365, t366⟩, A1080, H⟩ := H
            replace H : (some (t364, t365, t366)) = some (r1, r2, r3) := H
            have A108 := Aside0.mk A1080
            clear A1080
            simp only [Option.some.injEq, Prod.mk.injEq] at H
            obtain ⟨rfl, rfl, rfl⟩ := H
            have hnb109 := NB334_335.out
            have hnc109 := NB335_334.out
            have hnb110 := NB334_336.out
            have hnc110 := NB336_334.out
            obtain ⟨hcz111_0, hcz111_1, hcz111_2, hfz111_0, hfz111_1, hfz111_2⟩ := b3_ BK334
            have hnb112 := NB335_336.out
            have hnc112 := NB336_335.out
            obtain ⟨hcz113_0, hcz113_1, hcz113_2, hfz113_0, hfz113_1, hfz113_2⟩ := b3_ BK335
            go_wp2_with (first | ((with_reducible refine gate_callee (f := 49) rfl ?_); refine gsL_ (some 55) Try.func49 #[.agg #[.int .i64 a1_0, .int .i64 a1_1, .string a1_2], .agg #[.int .i64 a2_0, .int .i64 a2_1, .string a2_2]] ?_; (with_reducible refine (impl_CompareValue.calls kj48 a1_0 a1_1 a1_2 a2_0 a2_1 a2_2 t351 _ A67.out).mono ?_); rintro e w114 ⟨rfl, hb⟩; refine ⟨_, rfl, ?_⟩; replace BK334 := bkb_ BK334 hb; replace BK335 := bkb_ BK335 hb; replace BK336 := bkb_ BK336 hb; replace HB := bs_ hb; (try clear hb); (try clear hb2); (try clear hk); (try clear hi)) | ((with_reducible refine gate_callee (f := 50) rfl ?_); refine gsL_ (some 70) Try.func50 #[.bool false] ?_; (with_reducible refine (impl_flag.calls false t364 t365 t366 _ A108.out).mono ?_); rintro e w115 ⟨rfl, hb⟩; refine ⟨_, rfl, ?_⟩; replace BK334 := bkb_ BK334 hb; replace BK335 := bkb_ BK335 hb; replace BK336 := bkb_ BK336 hb; replace HB := bs_ hb; (try clear hb); (try clear hb2); (try clear hk); (try clear hi); obtain ⟨hcz116_0, hcz116_1, hcz116_2, hfz116_0, hfz116_1, hfz116_2⟩ := b3_ BK336))
            refine bodyPost_ret (results_cell_row rfl _ _ gb336 25 #[.int .i64 t364, .int .i64 t365, .string t366] (0, 0) _ rfl (bp3_ (bkx_ BK336.out)) Try.underlying25 rfl (by kernel_rfl)) rfl ?_
            exact ⟨er_, bb_⟩
      ·replace c48 := Bool.eq_false_iff.mpr c48
       subst c48
       have H1 : (if a0.toList = ([126] : List UInt8) then (if a1_0 = 3 then (impl_Reckon.j4 kj45 (a2_0 != 3) a1_0 a1_1 a1_2 a2_0 a2_1 a2_2) else (impl_Reckon.j4 kj45 true a1_0 a1_1 a1_2 a2_0 a2_1 a2_2)) else (if a0.toList = ([97, 110, 100] : List UInt8) then ((impl_decide.f kj45 a1_0 a1_1 a1_2 a2_0 a2_1 a2_2 false).bind fun bt374 => (some (bt374.1, bt374.2.1, bt374.2.2))) else (if a0.toList = ([111, 114] : List UInt8) then ((impl_decide.f kj45 a1_0 a1_1 a1_2 a2_0 a2_1 a2_2 true).bind fun bt377 => (some (bt377.1, bt377.2.1, bt377.2.2))) else ((impl_null.f).bind fun bt380 => (some (bt380.1, bt380.2.1, bt380.2.2)))))) = some (r1, r2, r3) := by rw [if_neg (show ¬ (false = true) by decide)] at H; exact H
       clear H
       have H := H1
       clear H1
       by_cases c117 : a0.toList = ([126] : List UInt8)
       ·rw [if_pos c117] at H
        have c117b0 : (a0.toList == ([126] : List UInt8)) = true := beq_iff_eq.mpr c117
        have c117b1 : (a0.toList != ([126] : List UInt8)) = false := bne_eq_false_iff_eq.mpr c117
        clear c117
        have HC118 := Aside0.mk H
        clear H
        go_upto_region 19 with (fail)
        go_cut [80] (fun v80 wc => ∃ (kq : Nat) (x80_117 : Bool), v80 = .bool x80_117 ∧ Aside0 (impl_Reckon.j4 kq x80_117 a1_0 a1_1 a1_2 a2_0 a2_1 a2_2 = some (r1, r2, r3)) ∧ Aside0 (kq ≤ kj45) ∧ Aside0 (wc.heap[gb334]? = some (.cells #[.int .i64 a1_0, .int .i64 a1_1, .string a1_2] 25 (0, 0))) ∧ Aside0 (wc.heap[gb335]? = some (.cells #[.int .i64 a2_0, .int .i64 a2_1, .string a2_2] 25 (0, 0))) ∧ Aside0 (wc.heap[gb336]? = some (.cells #[.int .i64 0, .int .i64 0, .string (⟨#[]⟩ : ByteArray)] 25 (0, 0))) ∧ Aside0 (Below w.heap.size w wc))
        case first =>
         have H := HC118.out
         clear HC118
         by_cases c119 : a1_0 = 3
         ·rw [if_pos c119] at H
          have c119b0 : (a1_0 == 3) = true := beq_iff_eq.mpr c119
          have c119b1 : (a1_0 != 3) = false := bne_eq_false_iff_eq.mpr c119
          clear c119
          (first | rw [c119b0] | (simp only [i64_w, i32_w]; rw [c119b0]) | skip)
          have H' := Aside0.mk H
          clear H
          have hnb120 := NB334_335.out
          have hnc120 := NB335_334.out
          have hnb121 := NB334_336.out
          have hnc121 := NB336_334.out
          obtain ⟨hcz122_0, hcz122_1, hcz122_2, hfz122_0, hfz122_1, hfz122_2⟩ := b3_ BK334
          have hnb123 := NB335_336.out
          have hnc123 := NB336_335.out
          obtain ⟨hcz124_0, hcz124_1, hcz124_2, hfz124_0, hfz124_1, hfz124_2⟩ := b3_ BK335
          go_wp2
          go_meet
          case rel => exact ⟨_, ((a2_0 != 3)), rs_, H', ⟨by have := HJ3.out; have := HJ45.out; first | omega | exact Nat.le_refl _⟩, ⟨bkx_ BK334.out⟩, ⟨bkx_ BK335.out⟩, ⟨bkx_ BK336.out⟩, ⟨bb_⟩⟩
         ·rw [if_neg c119] at H
          have c119b0 : (a1_0 == 3) = false := beq_eq_false_iff_ne.mpr c119
          have c119b1 : (a1_0 != 3) = true := bne_iff_ne.mpr c119
          (first | rw [c119b0] | (simp only [i64_w, i32_w]; rw [c119b0]) | skip)
          have H' := Aside0.mk H
          clear H
          have hnb125 := NB334_335.out
          have hnc125 := NB335_334.out
          have hnb126 := NB334_336.out
          have hnc126 := NB336_334.out
          obtain ⟨hcz127_0, hcz127_1, hcz127_2, hfz127_0, hfz127_1, hfz127_2⟩ := b3_ BK334
          go_wp2
          go_meet
          case rel => exact ⟨_, (true), rs_, H', ⟨by have := HJ3.out; have := HJ45.out; first | omega | exact Nat.le_refl _⟩, ⟨bkx_ BK334.out⟩, ⟨bkx_ BK335.out⟩, ⟨bkx_ BK336.out⟩, ⟨bb_⟩⟩
        case rest =>
         clear HC118
         try clear c1
         try clear c2
         try clear p2
         try clear c3
         try clear c4
         try clear c5
         try clear c6
         try clear c7
         try clear c8
         try clear c8b0
         try clear c8b1
         try clear c9
         try clear c9b0
         try clear c9b1
         try clear c10
         try clear c10b0
         try clear c10b1
         try clear c11
         try clear c12
         try clear c13
         try clear c13b0
         try clear c13b1
         try clear c14
         try clear c15
         try clear c17
         try clear c19
         try clear c20
         try clear c22
         try clear c25
         try clear c26
         try clear c29
         try clear c31
         try clear c32
         try clear c34
         try clear c39
         try clear c40
         try clear c42
         try clear c46
         try clear c47
         try clear c47b0
         try clear c47b1
         try clear c48
         try clear c49
         try clear c50
         try clear c50b0
         try clear c50b1
         try clear c51
         try clear c52
         try clear c54
         try clear c56
         try clear c57
         try clear c59
         try clear c61
         try clear c64
         try clear c65
         try clear c68
         try clear c68b0
         try clear c68b1
         try clear c69
         try clear c69b0
         try clear c69b1
         try clear c71
         try clear c72
         try clear c74
         try clear c79
         try clear c79b0
         try clear c79b1
         try clear c81
         try clear c82
         try clear c84
         try clear c90
         try clear c91
         try clear c93
         try clear c98
         try clear c98b0
         try clear c98b1
         try clear c100
         try clear c101
         try clear c103
         try clear c109
         try clear c110
         try clear c112
         try clear c117
         try clear c117b0
         try clear c117b1
         try clear c119
         try clear c119b0
         try clear c119b1
         try clear c120
         try clear c121
         try clear c123
         try clear c125
         try clear c126
         try clear hcz102_0
         try clear hcz102_1
         try clear hcz102_2
         try clear hcz104_0
         try clear hcz104_1
         try clear hcz104_2
         try clear hcz107_0
         try clear hcz107_1
         try clear hcz107_2
         try clear hcz111_0
         try clear hcz111_1
         try clear hcz111_2
         try clear hcz113_0
         try clear hcz113_1
         try clear hcz113_2
         try clear hcz116_0
         try clear hcz116_1
         try clear hcz116_2
         try clear hcz122_0
         try clear hcz122_1
         try clear hcz122_2
         try clear hcz124_0
         try clear hcz124_1
         try clear hcz124_2
         try clear hcz127_0
         try clear hcz127_1
         try clear hcz127_2
         try clear hcz16_0
         try clear hcz16_1
         try clear hcz16_2
         try clear hcz18_0
         try clear hcz18_1
         try clear hcz18_2
         try clear hcz21_0
         try clear hcz21_1
         try clear hcz21_2
         try clear hcz27_0
         try clear hcz27_1
         try clear hcz27_2
         try clear hcz33_0
         try clear hcz33_1
         try clear hcz33_2
         try clear hcz35_0
         try clear hcz35_1
         try clear hcz35_2
         try clear hcz37_0
         try clear hcz37_1
         try clear hcz37_2
         try clear hcz41_0
         try clear hcz41_1
         try clear hcz41_2
         try clear hcz43_0
         try clear hcz43_1
         try clear hcz43_2
         try clear hcz45_0
         try clear hcz45_1
         try clear hcz45_2
         try clear hcz53_0
         try clear hcz53_1
         try clear hcz53_2
         try clear hcz55_0
         try clear hcz55_1
         try clear hcz55_2
         try clear hcz58_0
         try clear hcz58_1
         try clear hcz58_2
         try clear hcz60_0
         try clear hcz60_1
         try clear hcz60_2
         try clear hcz66_0
         try clear hcz66_1
         try clear hcz66_2
         try clear hcz73_0
         try clear hcz73_1
         try clear hcz73_2
         try clear hcz75_0
         try clear hcz75_1
         try clear hcz75_2
         try clear hcz78_0
         try clear hcz78_1
         try clear hcz78_2
         try clear hcz83_0
         try clear hcz83_1
         try clear hcz83_2
         try clear hcz85_0
         try clear hcz85_1
         try clear hcz85_2
         try clear hcz88_0
         try clear hcz88_1
         try clear hcz88_2
         try clear hcz92_0
         try clear hcz92_1
         try clear hcz92_2
         try clear hcz94_0
         try clear hcz94_1
         try clear hcz94_2
         try clear hcz97_0
         try clear hcz97_1
         try clear hcz97_2
         try clear hfz102_0
         try clear hfz102_1
         try clear hfz102_2
         try clear hfz104_0
         try clear hfz104_1
         try clear hfz104_2
         try clear hfz107_0
         try clear hfz107_1
         try clear hfz107_2
         try clear hfz111_0
         try clear hfz111_1
         try clear hfz111_2
         try clear hfz113_0
         try clear hfz113_1
         try clear hfz113_2
         try clear hfz116_0
         try clear hfz116_1
         try clear hfz116_2
         try clear hfz122_0
         try clear hfz122_1
         try clear hfz122_2
         try clear hfz124_0
         try clear hfz124_1
         try clear hfz124_2
         try clear hfz127_0
         try clear hfz127_1
         try clear hfz127_2
         try clear hfz16_0
         try clear hfz16_1
         try clear hfz16_2
         try clear hfz18_0
         try clear hfz18_1
         try clear hfz18_2
         try clear hfz21_0
         try clear hfz21_1
         try clear hfz21_2
         try clear hfz27_0
         try clear hfz27_1
         try clear hfz27_2
         try clear hfz33_0
         try clear hfz33_1
         try clear hfz33_2
         try clear hfz35_0
         try clear hfz35_1
         try clear hfz35_2
         try clear hfz37_0
         try clear hfz37_1
         try clear hfz37_2
         try clear hfz41_0
         try clear hfz41_1
         try clear hfz41_2
         try clear hfz43_0
         try clear hfz43_1
         try clear hfz43_2
         try clear hfz45_0
         try clear hfz45_1
         try clear hfz45_2
         try clear hfz53_0
         try clear hfz53_1
         try clear hfz53_2
         try clear hfz55_0
         try clear hfz55_1
         try clear hfz55_2
         try clear hfz58_0
         try clear hfz58_1
         try clear hfz58_2
         try clear hfz60_0
         try clear hfz60_1
         try clear hfz60_2
         try clear hfz66_0
         try clear hfz66_1
         try clear hfz66_2
         try clear hfz73_0
         try clear hfz73_1
         try clear hfz73_2
         try clear hfz75_0
         try clear hfz75_1
         try clear hfz75_2
         try clear hfz78_0
         try clear hfz78_1
         try clear hfz78_2
         try clear hfz83_0
         try clear hfz83_1
         try clear hfz83_2
         try clear hfz85_0
         try clear hfz85_1
         try clear hfz85_2
         try clear hfz88_0
         try clear hfz88_1
         try clear hfz88_2
         try clear hfz92_0
         try clear hfz92_1
         try clear hfz92_2
         try clear hfz94_0
         try clear hfz94_1
         try clear hfz94_2
         try clear hfz97_0
         try clear hfz97_1
         try clear hfz97_2
         try clear p2
         obtain ⟨kq, x80_117, rfl, HA, HJ117, BK334, BK335, BK336, HB⟩ := hcut
         cases kq with
         | zero => exact absurd HA.out (by simp [impl_Reckon.j4])
         | succ kj117 =>
          have H := HA.out
          clear HA
          simp only [impl_Reckon.j4] at H
          by_cases c128 : x80_117 = true
          ·subst c128
           have H1 : ((impl_null.f).bind fun bt367 => (some (bt367.1, bt367.2.1, bt367.2.2))) = some (r1, r2, r3) := by rw [if_pos rfl] at H; exact H
           clear H
           have H := H1
           clear H1
           replace H := Option.bind_eq_some_iff.mp H
           obtain ⟨⟨t367, t368, t369⟩, A1290, H⟩ := H
           replace H : (some (t367, t368, t369)) = some (r1, r2, r3) := H
           have A129 := Aside0.mk A1290
           clear A1290
           simp only [Option.some.injEq, Prod.mk.injEq] at H
           obtain ⟨rfl, rfl, rfl⟩ := H
           go_wp2_with (first | ((with_reducible refine gate_callee (f := 46) rfl ?_); refine gsL_ (some 81) Try.func46 #[] ?_; (with_reducible refine (impl_null.calls  t367 t368 t369 _ A129.out).mono ?_); rintro e w130 ⟨rfl, hb⟩; refine ⟨_, rfl, ?_⟩; replace BK334 := bkb_ BK334 hb; replace BK335 := bkb_ BK335 hb; replace BK336 := bkb_ BK336 hb; replace HB := bs_ hb; (try clear hb); (try clear hb2); (try clear hk); (try clear hi); have hnb131 := NB336_334.out; have hnc131 := NB334_336.out; have hnb132 := NB336_335.out; have hnc132 := NB335_336.out; obtain ⟨hcz133_0, hcz133_1, hcz133_2, hfz133_0, hfz133_1, hfz133_2⟩ := b3_ BK336))
           refine bodyPost_ret (results_cell_row rfl _ _ gb336 25 #[.int .i64 t367, .int .i64 t368, .string t369] (0, 0) _ rfl (bp3_ (bkx_ BK336.out)) Try.underlying25 rfl (by kernel_rfl)) rfl ?_
           exact ⟨er_, bb_⟩
          ·replace c128 := Bool.eq_false_iff.mpr c128
           subst c128
           have H1 : ((strings_Contains.f a1_2 a2_2).bind fun t370 => ((impl_flag.f t370).bind fun bt371 => (some (bt371.1, bt371.2.1, bt371.2.2)))) = some (r1, r2, r3) := by rw [if_neg (show ¬ (false = true) by decide)] at H; exact H
           clear H
           have H := H1
           clear H1
           replace H := Option.bind_eq_some_iff.mp H
           obtain ⟨t370, A1340, H⟩ := H
           replace H : ((impl_flag.f t370).bind fun bt371 => (some (bt371.1, bt371.2.1, bt371.2.2))) = some (r1, r2, r3) := H
           have A134 := Aside0.mk A1340
           clear A1340
           replace H := Option.bind_eq_some_iff.mp H
           obtain ⟨⟨t371, t372, t373⟩, A1350, H⟩ := H
           replace H : (some (t371, t372, t373)) = some (r1, r2, r3) := H
           have A135 := Aside0.mk A1350
           clear A1350
           simp only [Option.some.injEq, Prod.mk.injEq] at H
           obtain ⟨rfl, rfl, rfl⟩ := H
           have hnb136 := NB334_335.out
           have hnc136 := NB335_334.out
           have hnb137 := NB334_336.out
           have hnc137 := NB336_334.out
           obtain ⟨hcz138_0, hcz138_1, hcz138_2, hfz138_0, hfz138_1, hfz138_2⟩ := b3_ BK334
           have hnb139 := NB335_336.out
           have hnc139 := NB336_335.out
           obtain ⟨hcz140_0, hcz140_1, hcz140_2, hfz140_0, hfz140_1, hfz140_2⟩ := b3_ BK335
           go_wp2_with (first | ((with_reducible refine gate_callee (f := 51) rfl ?_); refine gsL_ (some 86) Try.func51 #[.string a1_2, .string a2_2] ?_; (with_reducible refine (strings_Contains.calls a1_2 a2_2 t370 _ A134.out).mono ?_); rintro e w' ⟨rfl, ⟨nd, rfl⟩⟩; refine ⟨_, rfl, ?_⟩; (try (rw [drewN_self wc]; generalize hq_ : World.drewN wc _ = wc; have n0_ : Aside0 (wc.heap[gb334]? = some (.cells #[.int .i64 a1_0, .int .i64 a1_1, .string a1_2] 25 (0, 0))) := ⟨by rw [← hq_]; exact (bkx_ BK334.out)⟩; have n1_ : Aside0 (wc.heap[gb335]? = some (.cells #[.int .i64 a2_0, .int .i64 a2_1, .string a2_2] 25 (0, 0))) := ⟨by rw [← hq_]; exact (bkx_ BK335.out)⟩; have n2_ : Aside0 (wc.heap[gb336]? = some (.cells #[.int .i64 0, .int .i64 0, .string (⟨#[]⟩ : ByteArray)] 25 (0, 0))) := ⟨by rw [← hq_]; exact (bkx_ BK336.out)⟩; have n3_ : Aside0 (Below w.heap.size w wc) := ⟨by rw [← hq_]; exact bb_⟩; clear BK334 BK335 BK336 HB hq_; have BK334 := n0_; have BK335 := n1_; have BK336 := n2_; have HB := n3_; clear n0_ n1_ n2_ n3_))) | ((with_reducible refine gate_callee (f := 50) rfl ?_); refine gsL_ (some 87) Try.func50 #[.bool t370] ?_; (with_reducible refine (impl_flag.calls t370 t371 t372 t373 _ A135.out).mono ?_); rintro e w141 ⟨rfl, hb⟩; refine ⟨_, rfl, ?_⟩; replace BK334 := bkb_ BK334 hb; replace BK335 := bkb_ BK335 hb; replace BK336 := bkb_ BK336 hb; replace HB := bs_ hb; (try clear hb); (try clear hb2); (try clear hk); (try clear hi); obtain ⟨hcz142_0, hcz142_1, hcz142_2, hfz142_0, hfz142_1, hfz142_2⟩ := b3_ BK336))
           refine bodyPost_ret (results_cell_row rfl _ _ gb336 25 #[.int .i64 t371, .int .i64 t372, .string t373] (0, 0) _ rfl (bp3_ (bkx_ BK336.out)) Try.underlying25 rfl (by kernel_rfl)) rfl ?_
           exact ⟨er_, bb_⟩
       ·rw [if_neg c117] at H
        have c117b0 : (a0.toList == ([126] : List UInt8)) = false := beq_eq_false_iff_ne.mpr c117
        have c117b1 : (a0.toList != ([126] : List UInt8)) = true := bne_iff_ne.mpr c117
        by_cases c143 : a0.toList = ([97, 110, 100] : List UInt8)
        ·rw [if_pos c143] at H
         have c143b0 : (a0.toList == ([97, 110, 100] : List UInt8)) = true := beq_iff_eq.mpr c143
         have c143b1 : (a0.toList != ([97, 110, 100] : List UInt8)) = false := bne_eq_false_iff_eq.mpr c143
         clear c143
         replace H := Option.bind_eq_some_iff.mp H
         obtain ⟨⟨t374, t375, t376⟩, A1440, H⟩ := H
         replace H : (some (t374, t375, t376)) = some (r1, r2, r3) := H
         have A144 := Aside0.mk A1440
         clear A1440
         simp only [Option.some.injEq, Prod.mk.injEq] at H
         obtain ⟨rfl, rfl, rfl⟩ := H
         have hnb145 := NB334_335.out
         have hnc145 := NB335_334.out
         have hnb146 := NB334_336.out
         have hnc146 := NB336_334.out
         obtain ⟨hcz147_0, hcz147_1, hcz147_2, hfz147_0, hfz147_1, hfz147_2⟩ := b3_ BK334
         have hnb148 := NB335_336.out
         have hnc148 := NB336_335.out
         obtain ⟨hcz149_0, hcz149_1, hcz149_2, hfz149_0, hfz149_1, hfz149_2⟩ := b3_ BK335
         go_wp2_with (first | ((with_reducible refine gate_callee (f := 52) rfl ?_); refine gsL_ (some 92) Try.func52 #[.agg #[.int .i64 a1_0, .int .i64 a1_1, .string a1_2], .agg #[.int .i64 a2_0, .int .i64 a2_1, .string a2_2], .bool false] ?_; (with_reducible refine (impl_decide.calls kj45 a1_0 a1_1 a1_2 a2_0 a2_1 a2_2 false t374 t375 t376 _ A144.out).mono ?_); rintro e w150 ⟨rfl, hb⟩; refine ⟨_, rfl, ?_⟩; replace BK334 := bkb_ BK334 hb; replace BK335 := bkb_ BK335 hb; replace BK336 := bkb_ BK336 hb; replace HB := bs_ hb; (try clear hb); (try clear hb2); (try clear hk); (try clear hi); obtain ⟨hcz151_0, hcz151_1, hcz151_2, hfz151_0, hfz151_1, hfz151_2⟩ := b3_ BK336))
         refine bodyPost_ret (results_cell_row rfl _ _ gb336 25 #[.int .i64 t374, .int .i64 t375, .string t376] (0, 0) _ rfl (bp3_ (bkx_ BK336.out)) Try.underlying25 rfl (by kernel_rfl)) rfl ?_
         exact ⟨er_, bb_⟩
        ·rw [if_neg c143] at H
         have c143b0 : (a0.toList == ([97, 110, 100] : List UInt8)) = false := beq_eq_false_iff_ne.mpr c143
         have c143b1 : (a0.toList != ([97, 110, 100] : List UInt8)) = true := bne_iff_ne.mpr c143
         by_cases c152 : a0.toList = ([111, 114] : List UInt8)
         ·rw [if_pos c152] at H
          have c152b0 : (a0.toList == ([111, 114] : List UInt8)) = true := beq_iff_eq.mpr c152
          have c152b1 : (a0.toList != ([111, 114] : List UInt8)) = false := bne_eq_false_iff_eq.mpr c152
          clear c152
          replace H := Option.bind_eq_some_iff.mp H
          obtain ⟨⟨t377, t378, t379⟩, A1530, H⟩ := H
          replace H : (some (t377, t378, t379)) = some (r1, r2, r3) := H
          have A153 := Aside0.mk A1530
          clear A1530
          simp only [Option.some.injEq, Prod.mk.injEq] at H
          obtain ⟨rfl, rfl, rfl⟩ := H
          have hnb154 := NB334_335.out
          have hnc154 := NB335_334.out
          have hnb155 := NB334_336.out
          have hnc155 := NB336_334.out
          obtain ⟨hcz156_0, hcz156_1, hcz156_2, hfz156_0, hfz156_1, hfz156_2⟩ := b3_ BK334
          have hnb157 := NB335_336.out
          have hnc157 := NB336_335.out
          obtain ⟨hcz158_0, hcz158_1, hcz158_2, hfz158_0, hfz158_1, hfz158_2⟩ := b3_ BK335
          go_wp2_with (first | ((with_reducible refine gate_callee (f := 52) rfl ?_); refine gsL_ (some 97) Try.func52 #[.agg #[.int .i64 a1_0, .int .i64 a1_1, .string a1_2], .agg #[.int .i64 a2_0, .int .i64 a2_1, .string a2_2], .bool true] ?_; (with_reducible refine (impl_decide.calls kj45 a1_0 a1_1 a1_2 a2_0 a2_1 a2_2 true t377 t378 t379 _ A153.out).mono ?_); rintro e w159 ⟨rfl, hb⟩; refine ⟨_, rfl, ?_⟩; replace BK334 := bkb_ BK334 hb; replace BK335 := bkb_ BK335 hb; replace BK336 := bkb_ BK336 hb; replace HB := bs_ hb; (try clear hb); (try clear hb2); (try clear hk); (try clear hi); obtain ⟨hcz160_0, hcz160_1, hcz160_2, hfz160_0, hfz160_1, hfz160_2⟩ := b3_ BK336))
          refine bodyPost_ret (results_cell_row rfl _ _ gb336 25 #[.int .i64 t377, .int .i64 t378, .string t379] (0, 0) _ rfl (bp3_ (bkx_ BK336.out)) Try.underlying25 rfl (by kernel_rfl)) rfl ?_
          exact ⟨er_, bb_⟩
         ·rw [if_neg c152] at H
          have c152b0 : (a0.toList == ([111, 114] : List UInt8)) = false := beq_eq_false_iff_ne.mpr c152
          have c152b1 : (a0.toList != ([111, 114] : List UInt8)) = true := bne_iff_ne.mpr c152
          replace H := Option.bind_eq_some_iff.mp H
          obtain ⟨⟨t380, t381, t382⟩, A1610, H⟩ := H
          replace H : (some (t380, t381, t382)) = some (r1, r2, r3) := H
          have A161 := Aside0.mk A1610
          clear A1610
          simp only [Option.some.injEq, Prod.mk.injEq] at H
          obtain ⟨rfl, rfl, rfl⟩ := H
          go_wp2_with (first | ((with_reducible refine gate_callee (f := 46) rfl ?_); refine gsL_ (some 98) Try.func46 #[] ?_; (with_reducible refine (impl_null.calls  t380 t381 t382 _ A161.out).mono ?_); rintro e w162 ⟨rfl, hb⟩; refine ⟨_, rfl, ?_⟩; replace BK334 := bkb_ BK334 hb; replace BK335 := bkb_ BK335 hb; replace BK336 := bkb_ BK336 hb; replace HB := bs_ hb; (try clear hb); (try clear hb2); (try clear hk); (try clear hi); have hnb163 := NB336_334.out; have hnc163 := NB334_336.out; have hnb164 := NB336_335.out; have hnc164 := NB335_336.out; obtain ⟨hcz165_0, hcz165_1, hcz165_2, hfz165_0, hfz165_1, hfz165_2⟩ := b3_ BK336))
          refine bodyPost_ret (results_cell_row rfl _ _ gb336 25 #[.int .i64 t380, .int .i64 t381, .string t382] (0, 0) _ rfl (bp3_ (bkx_ BK336.out)) Try.underlying25 rfl (by kernel_rfl)) rfl ?_
          exact ⟨er_, bb_⟩

end Go.Proofs.Ythgdmdabdlgliaa.PFnExactEval
