-- WRITTEN BY xprint.py, a program of this session over the kit's printer: by nobody's hand
-- PRESSED
import Derived.Test.YthgdmdabdlgliaaPress
import Derived.Test.YthgdmdabdlgliaaPFnExactEvalx0
import Derived.Test.YthgdmdabdlgliaaPFnExactEvalx4
import Derived.Test.YthgdmdabdlgliaaPFnExactEvalx5
namespace Go.Proofs.Ythgdmdabdlgliaa.PFnExactEval
open Go.RowKit Go.Proofs.YthgdmdabdlgliaaW.PrintWords Go.Proofs.YthgdmdabdlgliaaW.PrintLast Go.Proofs.YthgdmdabdlgliaaW.PrintMore
set_option linter.unusedVariables false
set_option linter.unusedSimpArgs false

/-! ### spec_Reckon: function 11 -/
mutual
def spec_Reckon.j0 : Nat → ByteArray → Bool → Int → Int → ByteArray → Int → Int → ByteArray → Option (Int × Int × ByteArray)
 | 0, _, _, _, _, _, _, _, _ => none
 | k + 1, x0, x7, x185000, x185001, x185002, x186000, x186001, x186002 => if x7 = true then ((spec_l01Logic.f k x0 x185000 x185001 x185002 x186000 x186001 x186002).bind fun bt187 => (some (bt187.1, bt187.2.1, bt187.2.2))) else (if x185000 = x186000 then (spec_Reckon.j1 k x0 (x185000 == 0) x185000 x185001 x185002 x186000 x186001 x186002) else (spec_Reckon.j1 k x0 true x185000 x185001 x185002 x186000 x186001 x186002))
def spec_Reckon.j1 : Nat → ByteArray → Bool → Int → Int → ByteArray → Int → Int → ByteArray → Option (Int × Int × ByteArray)
 | 0, _, _, _, _, _, _, _, _ => none
 | k + 1, x0, x18, x185000, x185001, x185002, x186000, x186001, x186002 => if x18 = true then (some (0, 0, (⟨#[]⟩ : ByteArray))) else (if x0.toList = ([61] : List UInt8) then ((spec_CompareValue.f x185000 x185001 x185002 x186000 x186001 x186002).bind fun t190 => ((spec_l01Bool.f (t190 == 0)).bind fun bt191 => (some (bt191.1, bt191.2.1, bt191.2.2)))) else (if x0.toList = ([60] : List UInt8) then ((spec_CompareValue.f x185000 x185001 x185002 x186000 x186001 x186002).bind fun t194 => ((spec_l01Bool.f (decide (t194 < 0))).bind fun bt195 => (some (bt195.1, bt195.2.1, bt195.2.2)))) else (if x0.toList = ([126] : List UInt8) then (spec_Reckon.j2 k x0 (x185000 == 3) x185000 x185001 x185002 x186000 x186001 x186002) else (spec_Reckon.j2 k x0 false x185000 x185001 x185002 x186000 x186001 x186002))))
def spec_Reckon.j2 : Nat → ByteArray → Bool → Int → Int → ByteArray → Int → Int → ByteArray → Option (Int × Int × ByteArray)
 | 0, _, _, _, _, _, _, _, _ => none
 | k + 1, x0, x46, x185000, x185001, x185002, x186000, x186001, x186002 => if x46 = true then ((spec_l01Holds.f k x185002 x186002).bind fun t198 => ((spec_l01Bool.f t198).bind fun bt199 => (some (bt199.1, bt199.2.1, bt199.2.2)))) else (if x185000 = 1 then ((spec_l01Arith.f k x0 x185001 x186001).bind fun bt202 => (some (bt202.1, bt202.2.1, bt202.2.2))) else (some (0, 0, (⟨#[]⟩ : ByteArray))))
end
def spec_Reckon.f (k : Nat) (a0 : ByteArray) (a1_0 : Int) (a1_1 : Int) (a1_2 : ByteArray) (a2_0 : Int) (a2_1 : Int) (a2_2 : ByteArray) : Option (Int × Int × ByteArray) := if a0.toList = ([97, 110, 100] : List UInt8) then (spec_Reckon.j0 k a0 true a1_0 a1_1 a1_2 a2_0 a2_1 a2_2) else (spec_Reckon.j0 k a0 (a0.toList == ([111, 114] : List UInt8)) a1_0 a1_1 a1_2 a2_0 a2_1 a2_2)
set_option maxHeartbeats 8000000 in
set_option maxRecDepth 100000 in
theorem spec_Reckon.calls (k : Nat) (a0 : ByteArray) (a1_0 : Int) (a1_1 : Int) (a1_2 : ByteArray) (a2_0 : Int) (a2_1 : Int) (a2_2 : ByteArray) (r1 : Int) (r2 : Int) (r3 : ByteArray) (w : World) (h : spec_Reckon.f k a0 a1_0 a1_1 a1_2 a2_0 a2_1 a2_2 = some (r1, r2, r3)) :
  Calls Try.prog 11 #[.string a0, .agg #[.int .i64 a1_0, .int .i64 a1_1, .string a1_2], .agg #[.int .i64 a2_0, .int .i64 a2_1, .string a2_2]] w fun e w' => e = .returned (.agg #[.int .i64 r1, .int .i64 r2, .string r3]) ∧ Below w.heap.size w w' := by
 have hu25 := Try.underlying25
 have HB := Aside0.mk (Below.refl w.heap.size w)
 have H : (if a0.toList = ([97, 110, 100] : List UInt8) then (spec_Reckon.j0 k a0 true a1_0 a1_1 a1_2 a2_0 a2_1 a2_2) else (spec_Reckon.j0 k a0 (a0.toList == ([111, 114] : List UInt8)) a1_0 a1_1 a1_2 a2_0 a2_1 a2_2)) = some (r1, r2, r3) := h
 clear h
 have HC4 := Aside0.mk H
 clear H
 go_enter Try.func11, Try.ntmps11
 go_upto_region 1 with (first | ((with_reducible refine gate_dst (N := 4) rfl ?_); refine bx_ 4 #[.int .i64 a1_0, .int .i64 a1_1, .string a1_2] 25 ?_; intro gb184 hg w5 hbox hb; have BK184 := Aside0.mk (hbox); have GW184 := gw_ hg; have GE184 := gw_ hg; replace HB := bs_ hb; clear hb hbox hg) | ((with_reducible refine gate_dst (N := 5) rfl ?_); refine bx_ 5 #[.int .i64 a2_0, .int .i64 a2_1, .string a2_2] 25 ?_; intro gb185 hg w6 hbox hb; have BK185 := Aside0.mk (hbox); have GW185 := gw_ hg; have GE185 := gw_ hg; have NB184_185 := nl_ hg BK184; have NB185_184 := ng_ hg BK184; replace BK184 := bkb_ BK184 hb; replace HB := bs_ hb; clear hb hbox hg) | ((with_reducible refine gate_dst (N := 6) rfl ?_); refine bx_ 6 #[.int .i64 0, .int .i64 0, .string (⟨#[]⟩ : ByteArray)] 25 ?_; intro gb186 hg w7 hbox hb; have BK186 := Aside0.mk (hbox); have GW186 := gw_ hg; have GE186 := gw_ hg; have NB184_186 := nl_ hg BK184; have NB186_184 := ng_ hg BK184; have NB185_186 := nl_ hg BK185; have NB186_185 := ng_ hg BK185; replace BK184 := bkb_ BK184 hb; replace BK185 := bkb_ BK185 hb; replace HB := bs_ hb; clear hb hbox hg))
 (try simp only [Act.put, List.setIfInBounds_toArray, List.set_cons_zero, List.set_cons_succ])
 go_cut [7] (fun v7 wc => ∃ (kq : Nat) (x7_3 : Bool), v7 = .bool x7_3 ∧ Aside0 (spec_Reckon.j0 kq a0 x7_3 a1_0 a1_1 a1_2 a2_0 a2_1 a2_2 = some (r1, r2, r3)) ∧ Aside0 (kq ≤ k) ∧ Aside0 (wc.heap[gb184]? = some (.cells #[.int .i64 a1_0, .int .i64 a1_1, .string a1_2] 25 (0, 0))) ∧ Aside0 (wc.heap[gb185]? = some (.cells #[.int .i64 a2_0, .int .i64 a2_1, .string a2_2] 25 (0, 0))) ∧ Aside0 (wc.heap[gb186]? = some (.cells #[.int .i64 0, .int .i64 0, .string (⟨#[]⟩ : ByteArray)] 25 (0, 0))) ∧ Aside0 (Below w.heap.size w wc))
 case first =>
  have H := HC4.out
  clear HC4
  by_cases c8 : a0.toList = ([97, 110, 100] : List UInt8)
  ·rw [if_pos c8] at H
   have c8b0 : (a0.toList == ([97, 110, 100] : List UInt8)) = true := beq_iff_eq.mpr c8
   have c8b1 : (a0.toList != ([97, 110, 100] : List UInt8)) = false := bne_eq_false_iff_eq.mpr c8
   clear c8
   (first | rw [c8b0] | (simp only [i64_w, i32_w]; rw [c8b0]) | skip)
   have H' := Aside0.mk H
   clear H
   go_wp2
   go_meet
   case rel => exact ⟨_, (true), rs_, H', ⟨by first | omega | exact Nat.le_refl _⟩, ⟨bkx_ BK184.out⟩, ⟨bkx_ BK185.out⟩, ⟨bkx_ BK186.out⟩, ⟨bb_⟩⟩
  ·rw [if_neg c8] at H
   have c8b0 : (a0.toList == ([97, 110, 100] : List UInt8)) = false := beq_eq_false_iff_ne.mpr c8
   have c8b1 : (a0.toList != ([97, 110, 100] : List UInt8)) = true := bne_iff_ne.mpr c8
   (first | rw [c8b0] | (simp only [i64_w, i32_w]; rw [c8b0]) | skip)
   have H' := Aside0.mk H
   clear H
   go_wp2
   go_meet
   case rel => exact ⟨_, ((a0.toList == ([111, 114] : List UInt8))), rs_, H', ⟨by first | omega | exact Nat.le_refl _⟩, ⟨bkx_ BK184.out⟩, ⟨bkx_ BK185.out⟩, ⟨bkx_ BK186.out⟩, ⟨bb_⟩⟩
 case rest =>
  clear HC4
  try clear c1
  try clear p2
  try clear c8
  try clear c8b0
  try clear c8b1
  obtain ⟨kq, x7_3, rfl, HA, HJ3, BK184, BK185, BK186, HB⟩ := hcut
  cases kq with
  | zero => exact absurd HA.out (by simp [spec_Reckon.j0])
  | succ kj3 =>
   have H := HA.out
   clear HA
   simp only [spec_Reckon.j0] at H
   by_cases c9 : x7_3 = true
   ·subst c9
    have H1 : ((spec_l01Logic.f kj3 a0 a1_0 a1_1 a1_2 a2_0 a2_1 a2_2).bind fun bt187 => (some (bt187.1, bt187.2.1, bt187.2.2))) = some (r1, r2, r3) := by rw [if_pos rfl] at H; exact H
    clear H
    have H := H1
    clear H1
    replace H := Option.bind_eq_some_iff.mp H
    obtain ⟨⟨t187, t188, t189⟩, A100, H⟩ := H
    replace H : (some (t187, t188, t189)) = some (r1, r2, r3) := H
    have A10 := Aside0.mk A100
    clear A100
    simp only [Option.some.injEq, Prod.mk.injEq] at H
    obtain ⟨rfl, rfl, rfl⟩ := H
    have hnb11 := NB184_185.out
    have hnc11 := NB185_184.out
    have hnb12 := NB184_186.out
    have hnc12 := NB186_184.out
    obtain ⟨hcz13_0, hcz13_1, hcz13_2, hfz13_0, hfz13_1, hfz13_2⟩ := b3_ BK184
    have hnb14 := NB185_186.out
    have hnc14 := NB186_185.out
    obtain ⟨hcz15_0, hcz15_1, hcz15_2, hfz15_0, hfz15_1, hfz15_2⟩ := b3_ BK185
    go_wp2_with (first | ((with_reducible refine gate_callee (f := 53) rfl ?_); refine gsL_ (some 17) Try.func53 #[.string a0, .agg #[.int .i64 a1_0, .int .i64 a1_1, .string a1_2], .agg #[.int .i64 a2_0, .int .i64 a2_1, .string a2_2]] ?_; (with_reducible refine (spec_l01Logic.calls kj3 a0 a1_0 a1_1 a1_2 a2_0 a2_1 a2_2 t187 t188 t189 _ A10.out).mono ?_); rintro e w16 ⟨rfl, hb⟩; refine ⟨_, rfl, ?_⟩; replace BK184 := bkb_ BK184 hb; replace BK185 := bkb_ BK185 hb; replace BK186 := bkb_ BK186 hb; replace HB := bs_ hb; (try clear hb); (try clear hb2); (try clear hk); (try clear hi); obtain ⟨hcz17_0, hcz17_1, hcz17_2, hfz17_0, hfz17_1, hfz17_2⟩ := b3_ BK186))
    refine bodyPost_ret (results_cell_row rfl _ _ gb186 25 #[.int .i64 t187, .int .i64 t188, .string t189] (0, 0) _ rfl (bp3_ (bkx_ BK186.out)) Try.underlying25 rfl (by kernel_rfl)) rfl ?_
    exact ⟨er_, bb_⟩
   ·replace c9 := Bool.eq_false_iff.mpr c9
    subst c9
    have H1 : (if a1_0 = a2_0 then (spec_Reckon.j1 kj3 a0 (a1_0 == 0) a1_0 a1_1 a1_2 a2_0 a2_1 a2_2) else (spec_Reckon.j1 kj3 a0 true a1_0 a1_1 a1_2 a2_0 a2_1 a2_2)) = some (r1, r2, r3) := by rw [if_neg (show ¬ (false = true) by decide)] at H; exact H
    clear H
    have H := H1
    clear H1
    have HC18 := Aside0.mk H
    clear H
    go_upto_region 3 with (fail)
    go_cut [18] (fun v18 wc => ∃ (kq : Nat) (x18_17 : Bool), v18 = .bool x18_17 ∧ Aside0 (spec_Reckon.j1 kq a0 x18_17 a1_0 a1_1 a1_2 a2_0 a2_1 a2_2 = some (r1, r2, r3)) ∧ Aside0 (kq ≤ kj3) ∧ Aside0 (wc.heap[gb184]? = some (.cells #[.int .i64 a1_0, .int .i64 a1_1, .string a1_2] 25 (0, 0))) ∧ Aside0 (wc.heap[gb185]? = some (.cells #[.int .i64 a2_0, .int .i64 a2_1, .string a2_2] 25 (0, 0))) ∧ Aside0 (wc.heap[gb186]? = some (.cells #[.int .i64 0, .int .i64 0, .string (⟨#[]⟩ : ByteArray)] 25 (0, 0))) ∧ Aside0 (Below w.heap.size w wc))
    case first =>
     have H := HC18.out
     clear HC18
     by_cases c19 : a1_0 = a2_0
     ·rw [if_pos c19] at H
      have c19b0 : (a1_0 == a2_0) = true := beq_iff_eq.mpr c19
      have c19b1 : (a1_0 != a2_0) = false := bne_eq_false_iff_eq.mpr c19
      clear c19
      (first | rw [c19b0] | (simp only [i64_w, i32_w]; rw [c19b0]) | skip)
      have H' := Aside0.mk H
      clear H
      have hnb20 := NB184_185.out
      have hnc20 := NB185_184.out
      have hnb21 := NB184_186.out
      have hnc21 := NB186_184.out
      obtain ⟨hcz22_0, hcz22_1, hcz22_2, hfz22_0, hfz22_1, hfz22_2⟩ := b3_ BK184
      have hnb23 := NB185_186.out
      have hnc23 := NB186_185.out
      obtain ⟨hcz24_0, hcz24_1, hcz24_2, hfz24_0, hfz24_1, hfz24_2⟩ := b3_ BK185
      go_wp2
      go_meet
      case rel => exact ⟨_, ((a1_0 == 0)), rs_, H', ⟨by have := HJ3.out; first | omega | exact Nat.le_refl _⟩, ⟨bkx_ BK184.out⟩, ⟨bkx_ BK185.out⟩, ⟨bkx_ BK186.out⟩, ⟨bb_⟩⟩
     ·rw [if_neg c19] at H
      have c19b0 : (a1_0 == a2_0) = false := beq_eq_false_iff_ne.mpr c19
      have c19b1 : (a1_0 != a2_0) = true := bne_iff_ne.mpr c19
      (first | rw [c19b0] | (simp only [i64_w, i32_w]; rw [c19b0]) | skip)
      have H' := Aside0.mk H
      clear H
      have hnb25 := NB184_185.out
      have hnc25 := NB185_184.out
      have hnb26 := NB184_186.out
      have hnc26 := NB186_184.out
      obtain ⟨hcz27_0, hcz27_1, hcz27_2, hfz27_0, hfz27_1, hfz27_2⟩ := b3_ BK184
      have hnb28 := NB185_186.out
      have hnc28 := NB186_185.out
      obtain ⟨hcz29_0, hcz29_1, hcz29_2, hfz29_0, hfz29_1, hfz29_2⟩ := b3_ BK185
      go_wp2
      go_meet
      case rel => exact ⟨_, (true), rs_, H', ⟨by have := HJ3.out; first | omega | exact Nat.le_refl _⟩, ⟨bkx_ BK184.out⟩, ⟨bkx_ BK185.out⟩, ⟨bkx_ BK186.out⟩, ⟨bb_⟩⟩
    case rest =>
     clear HC18
     try clear c1
     try clear c2
     try clear p2
     try clear c5
     try clear c8
     try clear c8b0
     try clear c8b1
     try clear c9
     try clear c11
     try clear c12
     try clear c14
     try clear c19
     try clear c19b0
     try clear c19b1
     try clear c20
     try clear c21
     try clear c23
     try clear c25
     try clear c26
     try clear c28
     try clear hcz13_0
     try clear hcz13_1
     try clear hcz13_2
     try clear hcz15_0
     try clear hcz15_1
     try clear hcz15_2
     try clear hcz17_0
     try clear hcz17_1
     try clear hcz17_2
     try clear hcz22_0
     try clear hcz22_1
     try clear hcz22_2
     try clear hcz24_0
     try clear hcz24_1
     try clear hcz24_2
     try clear hcz27_0
     try clear hcz27_1
     try clear hcz27_2
     try clear hcz29_0
     try clear hcz29_1
     try clear hcz29_2
     try clear hfz13_0
     try clear hfz13_1
     try clear hfz13_2
     try clear hfz15_0
     try clear hfz15_1
     try clear hfz15_2
     try clear hfz17_0
     try clear hfz17_1
     try clear hfz17_2
     try clear hfz22_0
     try clear hfz22_1
     try clear hfz22_2
     try clear hfz24_0
     try clear hfz24_1
     try clear hfz24_2
     try clear hfz27_0
     try clear hfz27_1
     try clear hfz27_2
     try clear hfz29_0
     try clear hfz29_1
     try clear hfz29_2
     try clear p2
     obtain ⟨kq, x18_17, rfl, HA, HJ17, BK184, BK185, BK186, HB⟩ := hcut
     cases kq with
     | zero => exact absurd HA.out (by simp [spec_Reckon.j1])
     | succ kj17 =>
      have H := HA.out
      clear HA
      simp only [spec_Reckon.j1] at H
      by_cases c30 : x18_17 = true
      ·subst c30
       have H1 : (some (0, 0, (⟨#[]⟩ : ByteArray))) = some (r1, r2, r3) := by rw [if_pos rfl] at H; exact H
       clear H
       have H := H1
       clear H1
       simp only [Option.some.injEq, Prod.mk.injEq] at H
       obtain ⟨rfl, rfl, rfl⟩ := H
       have hnb31 := NB186_184.out
       have hnc31 := NB184_186.out
       have hnb32 := NB186_185.out
       have hnc32 := NB185_186.out
       obtain ⟨hcz33_0, hcz33_1, hcz33_2, hfz33_0, hfz33_1, hfz33_2⟩ := b3_ BK186
       go_wp2
       refine bodyPost_ret (results_cell_row rfl _ _ gb186 25 #[.int .i64 0, .int .i64 0, .string (⟨#[]⟩ : ByteArray)] (0, 0) _ rfl (bp3_ (bkx_ BK186.out)) Try.underlying25 rfl (by kernel_rfl)) rfl ?_
       exact ⟨er_, bb_⟩
      ·replace c30 := Bool.eq_false_iff.mpr c30
       subst c30
       have H1 : (if a0.toList = ([61] : List UInt8) then ((spec_CompareValue.f a1_0 a1_1 a1_2 a2_0 a2_1 a2_2).bind fun t190 => ((spec_l01Bool.f (t190 == 0)).bind fun bt191 => (some (bt191.1, bt191.2.1, bt191.2.2)))) else (if a0.toList = ([60] : List UInt8) then ((spec_CompareValue.f a1_0 a1_1 a1_2 a2_0 a2_1 a2_2).bind fun t194 => ((spec_l01Bool.f (decide (t194 < 0))).bind fun bt195 => (some (bt195.1, bt195.2.1, bt195.2.2)))) else (if a0.toList = ([126] : List UInt8) then (spec_Reckon.j2 kj17 a0 (a1_0 == 3) a1_0 a1_1 a1_2 a2_0 a2_1 a2_2) else (spec_Reckon.j2 kj17 a0 false a1_0 a1_1 a1_2 a2_0 a2_1 a2_2)))) = some (r1, r2, r3) := by rw [if_neg (show ¬ (false = true) by decide)] at H; exact H
       clear H
       have H := H1
       clear H1
       by_cases c34 : a0.toList = ([61] : List UInt8)
       ·rw [if_pos c34] at H
        have c34b0 : (a0.toList == ([61] : List UInt8)) = true := beq_iff_eq.mpr c34
        have c34b1 : (a0.toList != ([61] : List UInt8)) = false := bne_eq_false_iff_eq.mpr c34
        clear c34
        replace H := Option.bind_eq_some_iff.mp H
        obtain ⟨t190, A350, H⟩ := H
        replace H : ((spec_l01Bool.f (t190 == 0)).bind fun bt191 => (some (bt191.1, bt191.2.1, bt191.2.2))) = some (r1, r2, r3) := H
        have A35 := Aside0.mk A350
        clear A350
        replace H := Option.bind_eq_some_iff.mp H
        obtain ⟨⟨t191, t192, t193⟩, A360, H⟩ := H
        replace H : (some (t191, t192, t193)) = some (r1, r2, r3) := H
        have A36 := Aside0.mk A360
        clear A360
        simp only [Option.some.injEq, Prod.mk.injEq] at H
        obtain ⟨rfl, rfl, rfl⟩ := H
        have hnb37 := NB184_185.out
        have hnc37 := NB185_184.out
        have hnb38 := NB184_186.out
        have hnc38 := NB186_184.out
        obtain ⟨hcz39_0, hcz39_1, hcz39_2, hfz39_0, hfz39_1, hfz39_2⟩ := b3_ BK184
        have hnb40 := NB185_186.out
        have hnc40 := NB186_185.out
        obtain ⟨hcz41_0, hcz41_1, hcz41_2, hfz41_0, hfz41_1, hfz41_2⟩ := b3_ BK185
        go_wp2_with (first | ((with_reducible refine gate_callee (f := 55) rfl ?_); refine gsL_ (some 35) Try.func55 #[.agg #[.int .i64 a1_0, .int .i64 a1_1, .string a1_2], .agg #[.int .i64 a2_0, .int .i64 a2_1, .string a2_2]] ?_; (with_reducible refine (spec_CompareValue.calls a1_0 a1_1 a1_2 a2_0 a2_1 a2_2 t190 _ A35.out).mono ?_); rintro e w42 ⟨rfl, hb⟩; refine ⟨_, rfl, ?_⟩; replace BK184 := bkb_ BK184 hb; replace BK185 := bkb_ BK185 hb; replace BK186 := bkb_ BK186 hb; replace HB := bs_ hb; (try clear hb); (try clear hb2); (try clear hk); (try clear hi)) | ((with_reducible refine gate_callee (f := 54) rfl ?_); refine gsL_ (some 37) Try.func54 #[.bool (t190 == 0)] ?_; (with_reducible refine (spec_l01Bool.calls (t190 == 0) t191 t192 t193 _ A36.out).mono ?_); rintro e w43 ⟨rfl, hb⟩; refine ⟨_, rfl, ?_⟩; replace BK184 := bkb_ BK184 hb; replace BK185 := bkb_ BK185 hb; replace BK186 := bkb_ BK186 hb; replace HB := bs_ hb; (try clear hb); (try clear hb2); (try clear hk); (try clear hi); obtain ⟨hcz44_0, hcz44_1, hcz44_2, hfz44_0, hfz44_1, hfz44_2⟩ := b3_ BK186))
        refine bodyPost_ret (results_cell_row rfl _ _ gb186 25 #[.int .i64 t191, .int .i64 t192, .string t193] (0, 0) _ rfl (bp3_ (bkx_ BK186.out)) Try.underlying25 rfl (by kernel_rfl)) rfl ?_
        exact ⟨er_, bb_⟩
       ·rw [if_neg c34] at H
        have c34b0 : (a0.toList == ([61] : List UInt8)) = false := beq_eq_false_iff_ne.mpr c34
        have c34b1 : (a0.toList != ([61] : List UInt8)) = true := bne_iff_ne.mpr c34
        by_cases c45 : a0.toList = ([60] : List UInt8)
        ·rw [if_pos c45] at H
         have c45b0 : (a0.toList == ([60] : List UInt8)) = true := beq_iff_eq.mpr c45
         have c45b1 : (a0.toList != ([60] : List UInt8)) = false := bne_eq_false_iff_eq.mpr c45
         clear c45
         replace H := Option.bind_eq_some_iff.mp H
         obtain ⟨t194, A460, H⟩ := H
         replace H : ((spec_l01Bool.f (decide (t194 < 0))).bind fun bt195 => (some (bt195.1, bt195.2.1, bt195.2.2))) = some (r1, r2, r3) := H
         have A46 := Aside0.mk A460
         clear A460
         replace H := Option.bind_eq_some_iff.mp H
         obtain ⟨⟨t195, t196, t197⟩, A470, H⟩ := H
         replace H : (some (t195, t196, t197)) = some (r1, r2, r3) := H
         have A47 := Aside0.mk A470
         clear A470
         simp only [Option.some.injEq, Prod.mk.injEq] at H
         obtain ⟨rfl, rfl, rfl⟩ := H
         have hnb48 := NB184_185.out
         have hnc48 := NB185_184.out
         have hnb49 := NB184_186.out
         have hnc49 := NB186_184.out
         obtain ⟨hcz50_0, hcz50_1, hcz50_2, hfz50_0, hfz50_1, hfz50_2⟩ := b3_ BK184
         have hnb51 := NB185_186.out
         have hnc51 := NB186_185.out
         obtain ⟨hcz52_0, hcz52_1, hcz52_2, hfz52_0, hfz52_1, hfz52_2⟩ := b3_ BK185
         go_wp2_with (first | ((with_reducible refine gate_callee (f := 55) rfl ?_); refine gsL_ (some 43) Try.func55 #[.agg #[.int .i64 a1_0, .int .i64 a1_1, .string a1_2], .agg #[.int .i64 a2_0, .int .i64 a2_1, .string a2_2]] ?_; (with_reducible refine (spec_CompareValue.calls a1_0 a1_1 a1_2 a2_0 a2_1 a2_2 t194 _ A46.out).mono ?_); rintro e w53 ⟨rfl, hb⟩; refine ⟨_, rfl, ?_⟩; replace BK184 := bkb_ BK184 hb; replace BK185 := bkb_ BK185 hb; replace BK186 := bkb_ BK186 hb; replace HB := bs_ hb; (try clear hb); (try clear hb2); (try clear hk); (try clear hi)) | ((with_reducible refine gate_callee (f := 54) rfl ?_); refine gsL_ (some 45) Try.func54 #[.bool (decide (t194 < 0))] ?_; (with_reducible refine (spec_l01Bool.calls (decide (t194 < 0)) t195 t196 t197 _ A47.out).mono ?_); rintro e w54 ⟨rfl, hb⟩; refine ⟨_, rfl, ?_⟩; replace BK184 := bkb_ BK184 hb; replace BK185 := bkb_ BK185 hb; replace BK186 := bkb_ BK186 hb; replace HB := bs_ hb; (try clear hb); (try clear hb2); (try clear hk); (try clear hi); obtain ⟨hcz55_0, hcz55_1, hcz55_2, hfz55_0, hfz55_1, hfz55_2⟩ := b3_ BK186))
         refine bodyPost_ret (results_cell_row rfl _ _ gb186 25 #[.int .i64 t195, .int .i64 t196, .string t197] (0, 0) _ rfl (bp3_ (bkx_ BK186.out)) Try.underlying25 rfl (by kernel_rfl)) rfl ?_
         exact ⟨er_, bb_⟩
        ·rw [if_neg c45] at H
         have c45b0 : (a0.toList == ([60] : List UInt8)) = false := beq_eq_false_iff_ne.mpr c45
         have c45b1 : (a0.toList != ([60] : List UInt8)) = true := bne_iff_ne.mpr c45
         have HC56 := Aside0.mk H
         clear H
         go_upto_region 9 with (fail)
         go_cut [46] (fun v46 wc => ∃ (kq : Nat) (x46_55 : Bool), v46 = .bool x46_55 ∧ Aside0 (spec_Reckon.j2 kq a0 x46_55 a1_0 a1_1 a1_2 a2_0 a2_1 a2_2 = some (r1, r2, r3)) ∧ Aside0 (kq ≤ kj17) ∧ Aside0 (wc.heap[gb184]? = some (.cells #[.int .i64 a1_0, .int .i64 a1_1, .string a1_2] 25 (0, 0))) ∧ Aside0 (wc.heap[gb185]? = some (.cells #[.int .i64 a2_0, .int .i64 a2_1, .string a2_2] 25 (0, 0))) ∧ Aside0 (wc.heap[gb186]? = some (.cells #[.int .i64 0, .int .i64 0, .string (⟨#[]⟩ : ByteArray)] 25 (0, 0))) ∧ Aside0 (Below w.heap.size w wc))
         case first =>
          have H := HC56.out
          clear HC56
          by_cases c57 : a0.toList = ([126] : List UInt8)
          ·rw [if_pos c57] at H
           have c57b0 : (a0.toList == ([126] : List UInt8)) = true := beq_iff_eq.mpr c57
           have c57b1 : (a0.toList != ([126] : List UInt8)) = false := bne_eq_false_iff_eq.mpr c57
           clear c57
           (first | rw [c57b0] | (simp only [i64_w, i32_w]; rw [c57b0]) | skip)
           have H' := Aside0.mk H
           clear H
           have hnb58 := NB184_185.out
           have hnc58 := NB185_184.out
           have hnb59 := NB184_186.out
           have hnc59 := NB186_184.out
           obtain ⟨hcz60_0, hcz60_1, hcz60_2, hfz60_0, hfz60_1, hfz60_2⟩ := b3_ BK184
           go_wp2
           go_meet
           case rel => exact ⟨_, ((a1_0 == 3)), rs_, H', ⟨by have := HJ3.out; have := HJ17.out; first | omega | exact Nat.le_refl _⟩, ⟨bkx_ BK184.out⟩, ⟨bkx_ BK185.out⟩, ⟨bkx_ BK186.out⟩, ⟨bb_⟩⟩
          ·rw [if_neg c57] at H
           have c57b0 : (a0.toList == ([126] : List UInt8)) = false := beq_eq_false_iff_ne.mpr c57
           have c57b1 : (a0.toList != ([126] : List UInt8)) = true := bne_iff_ne.mpr c57
           (first | rw [c57b0] | (simp only [i64_w, i32_w]; rw [c57b0]) | skip)
           have H' := Aside0.mk H
           clear H
           go_wp2
           go_meet
           case rel => exact ⟨_, (false), rs_, H', ⟨by have := HJ3.out; have := HJ17.out; first | omega | exact Nat.le_refl _⟩, ⟨bkx_ BK184.out⟩, ⟨bkx_ BK185.out⟩, ⟨bkx_ BK186.out⟩, ⟨bb_⟩⟩
         case rest =>
          clear HC56
          try clear c1
          try clear c2
          try clear p2
          try clear c3
          try clear c4
          try clear c5
          try clear c8
          try clear c8b0
          try clear c8b1
          try clear c9
          try clear c11
          try clear c12
          try clear c14
          try clear c19
          try clear c19b0
          try clear c19b1
          try clear c20
          try clear c21
          try clear c23
          try clear c25
          try clear c26
          try clear c28
          try clear c30
          try clear c31
          try clear c32
          try clear c34
          try clear c34b0
          try clear c34b1
          try clear c37
          try clear c38
          try clear c40
          try clear c45
          try clear c45b0
          try clear c45b1
          try clear c48
          try clear c49
          try clear c51
          try clear c53
          try clear c54
          try clear c55
          try clear c57
          try clear c57b0
          try clear c57b1
          try clear c58
          try clear c59
          try clear hcz13_0
          try clear hcz13_1
          try clear hcz13_2
          try clear hcz15_0
          try clear hcz15_1
          try clear hcz15_2
          try clear hcz17_0
          try clear hcz17_1
          try clear hcz17_2
          try clear hcz22_0
          try clear hcz22_1
          try clear hcz22_2
          try clear hcz24_0
          try clear hcz24_1
          try clear hcz24_2
          try clear hcz27_0
          try clear hcz27_1
          try clear hcz27_2
          try clear hcz29_0
          try clear hcz29_1
          try clear hcz29_2
          try clear hcz33_0
          try clear hcz33_1
          try clear hcz33_2
          try clear hcz39_0
          try clear hcz39_1
          try clear hcz39_2
          try clear hcz41_0
          try clear hcz41_1
          try clear hcz41_2
          try clear hcz44_0
          try clear hcz44_1
          try clear hcz44_2
          try clear hcz50_0
          try clear hcz50_1
          try clear hcz50_2
          try clear hcz52_0
          try clear hcz52_1
          try clear hcz52_2
          try clear hcz55_0
          try clear hcz55_1
          try clear hcz55_2
          try clear hcz60_0
          try clear hcz60_1
          try clear hcz60_2
          try clear hfz13_0
          try clear hfz13_1
          try clear hfz13_2
          try clear hfz15_0
          try clear hfz15_1
          try clear hfz15_2
          try clear hfz17_0
          try clear hfz17_1
          try clear hfz17_2
          try clear hfz22_0
          try clear hfz22_1
          try clear hfz22_2
          try clear hfz24_0
          try clear hfz24_1
          try clear hfz24_2
          try clear hfz27_0
          try clear hfz27_1
          try clear hfz27_2
          try clear hfz29_0
          try clear hfz29_1
          try clear hfz29_2
          try clear hfz33_0
          try clear hfz33_1
          try clear hfz33_2
          try clear hfz39_0
          try clear hfz39_1
          try clear hfz39_2
          try clear hfz41_0
          try clear hfz41_1
          try clear hfz41_2
          try clear hfz44_0
          try clear hfz44_1
          try clear hfz44_2
          try clear hfz50_0
          try clear hfz50_1
          try clear hfz50_2
          try clear hfz52_0
          try clear hfz52_1
          try clear hfz52_2
          try clear hfz55_0
          try clear hfz55_1
          try clear hfz55_2
          try clear hfz60_0
          try clear hfz60_1
          try clear hfz60_2
          try clear p2
          obtain ⟨kq, x46_55, rfl, HA, HJ55, BK184, BK185, BK186, HB⟩ := hcut
          cases kq with
          | zero => exact absurd HA.out (by simp [spec_Reckon.j2])
          | succ kj55 =>
           have H := HA.out
           clear HA
           simp only [spec_Reckon.j2] at H
           by_cases c61 : x46_55 = true
           ·subst c61
            have H1 : ((spec_l01Holds.f kj55 a1_2 a2_2).bind fun t198 => ((spec_l01Bool.f t198).bind fun bt199 => (some (bt199.1, bt199.2.1, bt199.2.2)))) = some (r1, r2, r3) := by rw [if_pos rfl] at H; exact H
            clear H
            have H := H1
            clear H1
            replace H := Option.bind_eq_some_iff.mp H
            obtain ⟨t198, A620, H⟩ := H
            replace H : ((spec_l01Bool.f t198).bind fun bt199 => (some (bt199.1, bt199.2.1, bt199.2.2))) = some (r1, r2, r3) := H
            have A62 := Aside0.mk A620
            clear A620
            replace H := Option.bind_eq_some_iff.mp H
            obtain ⟨⟨t199, t200, t201⟩, A630, H⟩ := H
            replace H : (some (t199, t200, t201)) = some (r1, r2, r3) := H
            have A63 := Aside0.mk A630
            clear A630
            simp only [Option.some.injEq, Prod.mk.injEq] at H
            obtain ⟨rfl, rfl, rfl⟩ := H
            have hnb64 := NB184_185.out
            have hnc64 := NB185_184.out
            have hnb65 := NB184_186.out
            have hnc65 := NB186_184.out
            obtain ⟨hcz66_0, hcz66_1, hcz66_2, hfz66_0, hfz66_1, hfz66_2⟩ := b3_ BK184
            have hnb67 := NB185_186.out
            have hnc67 := NB186_185.out
            obtain ⟨hcz68_0, hcz68_1, hcz68_2, hfz68_0, hfz68_1, hfz68_2⟩ := b3_ BK185
            go_wp2_with (first | ((with_reducible refine gate_callee (f := 56) rfl ?_); refine gsL_ (some 58) Try.func56 #[.string a1_2, .string a2_2] ?_; (with_reducible refine (spec_l01Holds.calls kj55 a1_2 a2_2 t198 _ A62.out).mono ?_); rintro e w' ⟨rfl, ⟨nd, rfl⟩⟩; refine ⟨_, rfl, ?_⟩; (try (rw [drewN_self wc]; generalize hq_ : World.drewN wc _ = wc; have n0_ : Aside0 (wc.heap[gb184]? = some (.cells #[.int .i64 a1_0, .int .i64 a1_1, .string a1_2] 25 (0, 0))) := ⟨by rw [← hq_]; exact (bkx_ BK184.out)⟩; have n1_ : Aside0 (wc.heap[gb185]? = some (.cells #[.int .i64 a2_0, .int .i64 a2_1, .string a2_2] 25 (0, 0))) := ⟨by rw [← hq_]; exact (bkx_ BK185.out)⟩; have n2_ : Aside0 (wc.heap[gb186]? = some (.cells #[.int .i64 0, .int .i64 0, .string (⟨#[]⟩ : ByteArray)] 25 (0, 0))) := ⟨by rw [← hq_]; exact (bkx_ BK186.out)⟩; have n3_ : Aside0 (Below w.heap.size w wc) := ⟨by rw [← hq_]; exact bb_⟩; clear BK184 BK185 BK186 HB hq_; have BK184 := n0_; have BK185 := n1_; have BK186 := n2_; have HB := n3_; clear n0_ n1_ n2_ n3_))) | ((with_reducible refine gate_callee (f := 54) rfl ?_); refine gsL_ (some 59) Try.func54 #[.bool t198] ?_; (with_reducible refine (spec_l01Bool.calls t198 t199 t200 t201 _ A63.out).mono ?_); rintro e w69 ⟨rfl, hb⟩; refine ⟨_, rfl, ?_⟩; replace BK184 := bkb_ BK184 hb; replace BK185 := bkb_ BK185 hb; replace BK186 := bkb_ BK186 hb; replace HB := bs_ hb; (try clear hb); (try clear hb2); (try clear hk); (try clear hi); obtain ⟨hcz70_0, hcz70_1, hcz70_2, hfz70_0, hfz70_1, hfz70_2⟩ := b3_ BK186))
            refine bodyPost_ret (results_cell_row rfl _ _ gb186 25 #[.int .i64 t199, .int .i64 t200, .string t201] (0, 0) _ rfl (bp3_ (bkx_ BK186.out)) Try.underlying25 rfl (by kernel_rfl)) rfl ?_
            exact ⟨er_, bb_⟩
           ·replace c61 := Bool.eq_false_iff.mpr c61
            subst c61
            have H1 : (if a1_0 = 1 then ((spec_l01Arith.f kj55 a0 a1_1 a2_1).bind fun bt202 => (some (bt202.1, bt202.2.1, bt202.2.2))) else (some (0, 0, (⟨#[]⟩ : ByteArray)))) = some (r1, r2, r3) := by rw [if_neg (show ¬ (false = true) by decide)] at H; exact H
            clear H
            have H := H1
            clear H1
            by_cases c71 : a1_0 = 1
            ·rw [if_pos c71] at H
             have c71b0 : (a1_0 == 1) = true := beq_iff_eq.mpr c71
             have c71b1 : (a1_0 != 1) = false := bne_eq_false_iff_eq.mpr c71
             clear c71
             replace H := Option.bind_eq_some_iff.mp H
             obtain ⟨⟨t202, t203, t204⟩, A720, H⟩ := H
             replace H : (some (t202, t203, t204)) = some (r1, r2, r3) := H
             have A72 := Aside0.mk A720
             clear A720
             simp only [Option.some.injEq, Prod.mk.injEq] at H
             obtain ⟨rfl, rfl, rfl⟩ := H
             have hnb73 := NB184_185.out
             have hnc73 := NB185_184.out
             have hnb74 := NB184_186.out
             have hnc74 := NB186_184.out
             obtain ⟨hcz75_0, hcz75_1, hcz75_2, hfz75_0, hfz75_1, hfz75_2⟩ := b3_ BK184
             have hnb76 := NB185_186.out
             have hnc76 := NB186_185.out
             obtain ⟨hcz77_0, hcz77_1, hcz77_2, hfz77_0, hfz77_1, hfz77_2⟩ := b3_ BK185
             go_wp2_with (first | ((with_reducible refine gate_callee (f := 57) rfl ?_); refine gsL_ (some 69) Try.func57 #[.string a0, .int .i64 a1_1, .int .i64 a2_1] ?_; (with_reducible refine (spec_l01Arith.calls kj55 a0 a1_1 a2_1 t202 t203 t204 _ A72.out).mono ?_); rintro e w78 ⟨rfl, hb⟩; refine ⟨_, rfl, ?_⟩; replace BK184 := bkb_ BK184 hb; replace BK185 := bkb_ BK185 hb; replace BK186 := bkb_ BK186 hb; replace HB := bs_ hb; (try clear hb); (try clear hb2); (try clear hk); (try clear hi); obtain ⟨hcz79_0, hcz79_1, hcz79_2, hfz79_0, hfz79_1, hfz79_2⟩ := b3_ BK186))
             refine bodyPost_ret (results_cell_row rfl _ _ gb186 25 #[.int .i64 t202, .int .i64 t203, .string t204] (0, 0) _ rfl (bp3_ (bkx_ BK186.out)) Try.underlying25 rfl (by kernel_rfl)) rfl ?_
             exact ⟨er_, bb_⟩
            ·rw [if_neg c71] at H
             have c71b0 : (a1_0 == 1) = false := beq_eq_false_iff_ne.mpr c71
             have c71b1 : (a1_0 != 1) = true := bne_iff_ne.mpr c71
             simp only [Option.some.injEq, Prod.mk.injEq] at H
             obtain ⟨rfl, rfl, rfl⟩ := H
             have hnb80 := NB184_185.out
             have hnc80 := NB185_184.out
             have hnb81 := NB184_186.out
             have hnc81 := NB186_184.out
             obtain ⟨hcz82_0, hcz82_1, hcz82_2, hfz82_0, hfz82_1, hfz82_2⟩ := b3_ BK184
             have hnb83 := NB186_185.out
             have hnc83 := NB185_186.out
             obtain ⟨hcz84_0, hcz84_1, hcz84_2, hfz84_0, hfz84_1, hfz84_2⟩ := b3_ BK186
             go_wp2
             refine bodyPost_ret (results_cell_row rfl _ _ gb186 25 #[.int .i64 0, .int .i64 0, .string (⟨#[]⟩ : ByteArray)] (0, 0) _ rfl (bp3_ (bkx_ BK186.out)) Try.underlying25 rfl (by kernel_rfl)) rfl ?_
             exact ⟨er_, bb_⟩

/-! ### spec_Not: function 13 -/
def spec_Not.f (a0_0 : Int) (a0_1 : Int) (a0_2 : ByteArray) : Option (Int × Int × ByteArray) := if a0_0 = 2 then ((spec_l01Bool.f (a0_1 == 0)).bind fun bt207 => (some (bt207.1, bt207.2.1, bt207.2.2))) else (some (0, 0, (⟨#[]⟩ : ByteArray)))
set_option maxHeartbeats 8000000 in
set_option maxRecDepth 100000 in
theorem spec_Not.calls (a0_0 : Int) (a0_1 : Int) (a0_2 : ByteArray) (r1 : Int) (r2 : Int) (r3 : ByteArray) (w : World) (h : spec_Not.f a0_0 a0_1 a0_2 = some (r1, r2, r3)) :
  Calls Try.prog 13 #[.agg #[.int .i64 a0_0, .int .i64 a0_1, .string a0_2]] w fun e w' => e = .returned (.agg #[.int .i64 r1, .int .i64 r2, .string r3]) ∧ Below w.heap.size w w' := by
 have hu25 := Try.underlying25
 have HB := Aside0.mk (Below.refl w.heap.size w)
 have H : (if a0_0 = 2 then ((spec_l01Bool.f (a0_1 == 0)).bind fun bt207 => (some (bt207.1, bt207.2.1, bt207.2.2))) else (some (0, 0, (⟨#[]⟩ : ByteArray)))) = some (r1, r2, r3) := h
 clear h
 by_cases c2 : a0_0 = 2
 ·rw [if_pos c2] at H
  have c2b0 : (a0_0 == 2) = true := beq_iff_eq.mpr c2
  have c2b1 : (a0_0 != 2) = false := bne_eq_false_iff_eq.mpr c2
  clear c2
  replace H := Option.bind_eq_some_iff.mp H
  obtain ⟨⟨t207, t208, t209⟩, A30, H⟩ := H
  replace H : (some (t207, t208, t209)) = some (r1, r2, r3) := H
  have A3 := Aside0.mk A30
  clear A30
  simp only [Option.some.injEq, Prod.mk.injEq] at H
  obtain ⟨rfl, rfl, rfl⟩ := H
  go_enter Try.func13, Try.ntmps13
  go_wp2_with (first | ((with_reducible refine gate_dst (N := 1) rfl ?_); refine bx_ 1 #[.int .i64 a0_0, .int .i64 a0_1, .string a0_2] 25 ?_; intro gb205 hg w4 hbox hb; have BK205 := Aside0.mk (hbox); have GW205 := gw_ hg; have GE205 := gw_ hg; replace HB := bs_ hb; clear hb hbox hg) | ((with_reducible refine gate_dst (N := 2) rfl ?_); refine bx_ 2 #[.int .i64 0, .int .i64 0, .string (⟨#[]⟩ : ByteArray)] 25 ?_; intro gb206 hg w5 hbox hb; have BK206 := Aside0.mk (hbox); have GW206 := gw_ hg; have GE206 := gw_ hg; have NB205_206 := nl_ hg BK205; have NB206_205 := ng_ hg BK205; replace BK205 := bkb_ BK205 hb; replace HB := bs_ hb; clear hb hbox hg; have hnb6 := NB205_206.out; have hnc6 := NB206_205.out; obtain ⟨hcz7_0, hcz7_1, hcz7_2, hfz7_0, hfz7_1, hfz7_2⟩ := b3_ BK205) | ((with_reducible refine gate_callee (f := 54) rfl ?_); refine gsL_ (some 10) Try.func54 #[.bool (a0_1 == 0)] ?_; (with_reducible refine (spec_l01Bool.calls (a0_1 == 0) t207 t208 t209 _ A3.out).mono ?_); rintro e w8 ⟨rfl, hb⟩; refine ⟨_, rfl, ?_⟩; replace BK205 := bkb_ BK205 hb; replace BK206 := bkb_ BK206 hb; replace HB := bs_ hb; (try clear hb); (try clear hb2); (try clear hk); (try clear hi); obtain ⟨hcz9_0, hcz9_1, hcz9_2, hfz9_0, hfz9_1, hfz9_2⟩ := b3_ BK206))
  refine bodyPost_ret (results_cell_row rfl _ _ gb206 25 #[.int .i64 t207, .int .i64 t208, .string t209] (0, 0) _ rfl (bp3_ (bkx_ BK206.out)) Try.underlying25 rfl (by kernel_rfl)) rfl ?_
  exact ⟨er_, bb_⟩
 ·rw [if_neg c2] at H
  have c2b0 : (a0_0 == 2) = false := beq_eq_false_iff_ne.mpr c2
  have c2b1 : (a0_0 != 2) = true := bne_iff_ne.mpr c2
  simp only [Option.some.injEq, Prod.mk.injEq] at H
  obtain ⟨rfl, rfl, rfl⟩ := H
  go_enter Try.func13, Try.ntmps13
  go_wp2_with (first | ((with_reducible refine gate_dst (N := 1) rfl ?_); refine bx_ 1 #[.int .i64 a0_0, .int .i64 a0_1, .string a0_2] 25 ?_; intro gb205 hg w10 hbox hb; have BK205 := Aside0.mk (hbox); have GW205 := gw_ hg; have GE205 := gw_ hg; replace HB := bs_ hb; clear hb hbox hg) | ((with_reducible refine gate_dst (N := 2) rfl ?_); refine bx_ 2 #[.int .i64 0, .int .i64 0, .string (⟨#[]⟩ : ByteArray)] 25 ?_; intro gb206 hg w11 hbox hb; have BK206 := Aside0.mk (hbox); have GW206 := gw_ hg; have GE206 := gw_ hg; have NB205_206 := nl_ hg BK205; have NB206_205 := ng_ hg BK205; replace BK205 := bkb_ BK205 hb; replace HB := bs_ hb; clear hb hbox hg; have hnb12 := NB205_206.out; have hnc12 := NB206_205.out; obtain ⟨hcz13_0, hcz13_1, hcz13_2, hfz13_0, hfz13_1, hfz13_2⟩ := b3_ BK205; obtain ⟨hcz14_0, hcz14_1, hcz14_2, hfz14_0, hfz14_1, hfz14_2⟩ := b3_ BK206))
  refine bodyPost_ret (results_cell_row rfl _ _ gb206 25 #[.int .i64 0, .int .i64 0, .string (⟨#[]⟩ : ByteArray)] (0, 0) _ rfl (bp3_ (bkx_ BK206.out)) Try.underlying25 rfl (by kernel_rfl)) rfl ?_
  exact ⟨er_, bb_⟩

/-! ### spec_IsNull: function 15 -/
def spec_IsNull.f (a0_0 : Int) (a0_1 : Int) (a0_2 : ByteArray) : Option (Int × Int × ByteArray) := (spec_l01Bool.f (a0_0 == 0)).bind fun bt212 => (some (bt212.1, bt212.2.1, bt212.2.2))
set_option maxHeartbeats 8000000 in
set_option maxRecDepth 100000 in
theorem spec_IsNull.calls (a0_0 : Int) (a0_1 : Int) (a0_2 : ByteArray) (r1 : Int) (r2 : Int) (r3 : ByteArray) (w : World) (h : spec_IsNull.f a0_0 a0_1 a0_2 = some (r1, r2, r3)) :
  Calls Try.prog 15 #[.agg #[.int .i64 a0_0, .int .i64 a0_1, .string a0_2]] w fun e w' => e = .returned (.agg #[.int .i64 r1, .int .i64 r2, .string r3]) ∧ Below w.heap.size w w' := by
 have hu25 := Try.underlying25
 have HB := Aside0.mk (Below.refl w.heap.size w)
 have H : ((spec_l01Bool.f (a0_0 == 0)).bind fun bt212 => (some (bt212.1, bt212.2.1, bt212.2.2))) = some (r1, r2, r3) := h
 clear h
 replace H := Option.bind_eq_some_iff.mp H
 obtain ⟨⟨t212, t213, t214⟩, A20, H⟩ := H
 replace H : (some (t212, t213, t214)) = some (r1, r2, r3) := H
 have A2 := Aside0.mk A20
 clear A20
 simp only [Option.some.injEq, Prod.mk.injEq] at H
 obtain ⟨rfl, rfl, rfl⟩ := H
 go_enter Try.func15, Try.ntmps15
 go_wp2_with (first | ((with_reducible refine gate_dst (N := 1) rfl ?_); refine bx_ 1 #[.int .i64 a0_0, .int .i64 a0_1, .string a0_2] 25 ?_; intro gb210 hg w3 hbox hb; have BK210 := Aside0.mk (hbox); have GW210 := gw_ hg; have GE210 := gw_ hg; replace HB := bs_ hb; clear hb hbox hg) | ((with_reducible refine gate_dst (N := 2) rfl ?_); refine bx_ 2 #[.int .i64 0, .int .i64 0, .string (⟨#[]⟩ : ByteArray)] 25 ?_; intro gb211 hg w4 hbox hb; have BK211 := Aside0.mk (hbox); have GW211 := gw_ hg; have GE211 := gw_ hg; have NB210_211 := nl_ hg BK210; have NB211_210 := ng_ hg BK210; replace BK210 := bkb_ BK210 hb; replace HB := bs_ hb; clear hb hbox hg; have hnb5 := NB210_211.out; have hnc5 := NB211_210.out; obtain ⟨hcz6_0, hcz6_1, hcz6_2, hfz6_0, hfz6_1, hfz6_2⟩ := b3_ BK210) | ((with_reducible refine gate_callee (f := 54) rfl ?_); refine gsL_ (some 6) Try.func54 #[.bool (a0_0 == 0)] ?_; (with_reducible refine (spec_l01Bool.calls (a0_0 == 0) t212 t213 t214 _ A2.out).mono ?_); rintro e w7 ⟨rfl, hb⟩; refine ⟨_, rfl, ?_⟩; replace BK210 := bkb_ BK210 hb; replace BK211 := bkb_ BK211 hb; replace HB := bs_ hb; (try clear hb); (try clear hb2); (try clear hk); (try clear hi); obtain ⟨hcz8_0, hcz8_1, hcz8_2, hfz8_0, hfz8_1, hfz8_2⟩ := b3_ BK211))
 refine bodyPost_ret (results_cell_row rfl _ _ gb211 25 #[.int .i64 t212, .int .i64 t213, .string t214] (0, 0) _ rfl (bp3_ (bkx_ BK211.out)) Try.underlying25 rfl (by kernel_rfl)) rfl ?_
 exact ⟨er_, bb_⟩

end Go.Proofs.Ythgdmdabdlgliaa.PFnExactEval
