-- WRITTEN BY xprint.py, a program of this session over the kit's printer: by nobody's hand
-- PRESSED
import Derived.Test.YtnibegacjmnhoaaPress
import Derived.Test.YtnibegacjmnhoaaPFnExactGetBagx0
import Derived.Test.YtnibegacjmnhoaaPFnExactGetBagx2
namespace Go.Proofs.Ytnibegacjmnhoaa.PFnExactGetBag
open Go.RowKit Go.Proofs.YtnibegacjmnhoaaW.PrintWords Go.Proofs.YtnibegacjmnhoaaW.PrintLast Go.Proofs.YtnibegacjmnhoaaW.PrintMore
set_option linter.unusedVariables false
set_option linter.unusedSimpArgs false

/-! ### spec_GetValue: function 26 -/
mutual
def spec_GetValue.j0 : Nat → ByteArray → Int → Int → Bool → Int → Int → ByteArray → Option (Int × Int × ByteArray × Int)
 | 0, _, _, _, _, _, _, _ => none
 | k + 1, x0, x1, x7, x22, x148000, x148001, x148002 => if x22 = true then (spec_GetValue.l0 k x0 x1 0 1 x148000 x148001 x148002) else (if x148000 = 2 then (spec_GetValue.j2 k x0 x1 x7 (decide ((wrap64 ((x0.size : Int) - x1)) ≥ 2)) x148000 x148001 x148002) else (spec_GetValue.j2 k x0 x1 x7 false x148000 x148001 x148002))
def spec_GetValue.l0 : Nat → ByteArray → Int → Int → Int → Int → Int → ByteArray → Option (Int × Int × ByteArray × Int)
 | 0, _, _, _, _, _, _, _ => none
 | k + 1, x0, x1, x8, x9, x148000, x148001, x148002 => if x9 < 9 then (if 0 ≤ (wrap64 (x1 + x9)) then (if (wrap64 (x1 + x9)) < (x0.size : Int) then (spec_GetValue.l0 k x0 x1 (IntKind.u64.wrap ((IntKind.u64.wrap (256 * x8)) + (IntKind.u64.wrap (bt x0 (wrap64 (x1 + x9)))))) (wrap64 (x9 + 1)) x148000 x148001 x148002) else (none)) else (none)) else ((spec_ValueOk.f x148000 (wrap64 (x8)) x148002).bind fun t148 => (if t148 = true then (some (x148000, wrap64 (x8), x148002, wrap64 (x1 + 9))) else (some (0, 0, (⟨#[]⟩ : ByteArray), (-1)))))
def spec_GetValue.j2 : Nat → ByteArray → Int → Int → Bool → Int → Int → ByteArray → Option (Int × Int × ByteArray × Int)
 | 0, _, _, _, _, _, _, _ => none
 | k + 1, x0, x1, x7, x49, x148000, x148001, x148002 => if x49 = true then (if 0 ≤ (wrap64 (x1 + 1)) then (if (wrap64 (x1 + 1)) < (x0.size : Int) then ((spec_ValueOk.f x148000 (wrap64 (bt x0 (wrap64 (x1 + 1)))) x148002).bind fun t149 => (if t149 = true then (some (x148000, wrap64 (bt x0 (wrap64 (x1 + 1))), x148002, wrap64 (x1 + 2))) else (some (0, 0, (⟨#[]⟩ : ByteArray), (-1))))) else (none)) else (none)) else (if x148000 = 3 then (if (wrap64 ((x0.size : Int) - x1)) ≥ 2 then (if 0 ≤ (wrap64 (x1 + 1)) then (if (wrap64 (x1 + 1)) < (x0.size : Int) then (spec_GetValue.j3 k x0 x1 x7 (decide ((wrap64 ((wrap64 ((x0.size : Int) - x1)) - 2)) ≥ (wrap64 (bt x0 (wrap64 (x1 + 1)))))) x148000 x148001 x148002) else (none)) else (none)) else (spec_GetValue.j3 k x0 x1 x7 false x148000 x148001 x148002)) else (spec_GetValue.j3 k x0 x1 x7 false x148000 x148001 x148002))
def spec_GetValue.j3 : Nat → ByteArray → Int → Int → Bool → Int → Int → ByteArray → Option (Int × Int × ByteArray × Int)
 | 0, _, _, _, _, _, _, _ => none
 | k + 1, x0, x1, x7, x66, x148000, x148001, x148002 => if x66 = true then (if 0 ≤ (wrap64 (x1 + 1)) then (if (wrap64 (x1 + 1)) < (x0.size : Int) then (if 0 ≤ (wrap64 (x1 + 2)) then (if (wrap64 (x1 + 2)) ≤ (wrap64 (x1 + (wrap64 (2 + (wrap64 (bt x0 (wrap64 (x1 + 1)))))))) then (if (wrap64 (x1 + (wrap64 (2 + (wrap64 (bt x0 (wrap64 (x1 + 1)))))))) ≤ (x0.size : Int) then ((spec_ValueOk.f x148000 x148001 (x0.extract ((wrap64 (x1 + 2)) : Int).toNat ((wrap64 (x1 + (wrap64 (2 + (wrap64 (bt x0 (wrap64 (x1 + 1)))))))) : Int).toNat)).bind fun t150 => (if t150 = true then (some (x148000, x148001, x0.extract ((wrap64 (x1 + 2)) : Int).toNat ((wrap64 (x1 + (wrap64 (2 + (wrap64 (bt x0 (wrap64 (x1 + 1)))))))) : Int).toNat, wrap64 (x1 + (wrap64 (2 + (wrap64 (bt x0 (wrap64 (x1 + 1))))))))) else (some (0, 0, (⟨#[]⟩ : ByteArray), (-1))))) else (none)) else (none)) else (none)) else (none)) else (none)) else (if x148000 = 0 then ((spec_ValueOk.f x148000 x148001 x148002).bind fun t151 => (if t151 = true then (some (x148000, x148001, x148002, wrap64 (x1 + x7))) else (some (0, 0, (⟨#[]⟩ : ByteArray), (-1))))) else (some (0, 0, (⟨#[]⟩ : ByteArray), (-1))))
end
def spec_GetValue.f (k : Nat) (a0 : ByteArray) (a1 : Int) : Option (Int × Int × ByteArray × Int) := (spec_l01In.f a1 0 (wrap64 ((a0.size : Int) - 1))).bind fun t146 => (if t146 = true then (if 0 ≤ a1 then (if a1 < (a0.size : Int) then (if (wrap64 (bt a0 a1)) = 1 then (spec_GetValue.j0 k a0 a1 1 (decide ((wrap64 ((a0.size : Int) - a1)) ≥ 9)) (wrap64 (bt a0 a1)) 0 (⟨#[]⟩ : ByteArray)) else (spec_GetValue.j0 k a0 a1 1 false (wrap64 (bt a0 a1)) 0 (⟨#[]⟩ : ByteArray))) else (none)) else (none)) else (some (0, 0, (⟨#[]⟩ : ByteArray), (-1))))
set_option maxHeartbeats 8000000 in
set_option maxRecDepth 100000 in
theorem spec_GetValue.calls (k : Nat) (a0 : ByteArray) (a1 : Int) (r1 : Int) (r2 : Int) (r3 : ByteArray) (r4 : Int) (w : World) (h : spec_GetValue.f k a0 a1 = some (r1, r2, r3, r4)) :
  Calls Try.prog 26 #[.string a0, .int .i64 a1] w fun e w' => e = .returned (.tuple #[.agg #[.int .i64 r1, .int .i64 r2, .string r3], .int .i64 r4]) ∧ Below w.heap.size w w' := by
 have hu42 := Try.underlying42
 have HB := Aside0.mk (Below.refl w.heap.size w)
 have H : ((spec_l01In.f a1 0 (wrap64 ((a0.size : Int) - 1))).bind fun t146 => (if t146 = true then (if 0 ≤ a1 then (if a1 < (a0.size : Int) then (if (wrap64 (bt a0 a1)) = 1 then (spec_GetValue.j0 k a0 a1 1 (decide ((wrap64 ((a0.size : Int) - a1)) ≥ 9)) (wrap64 (bt a0 a1)) 0 (⟨#[]⟩ : ByteArray)) else (spec_GetValue.j0 k a0 a1 1 false (wrap64 (bt a0 a1)) 0 (⟨#[]⟩ : ByteArray))) else (none)) else (none)) else (some (0, 0, (⟨#[]⟩ : ByteArray), (-1))))) = some (r1, r2, r3, r4) := h
 clear h
 replace H := Option.bind_eq_some_iff.mp H
 obtain ⟨t146, A30, H⟩ := H
 replace H : (if t146 = true then (if 0 ≤ a1 then (if a1 < (a0.size : Int) then (if (wrap64 (bt a0 a1)) = 1 then (spec_GetValue.j0 k a0 a1 1 (decide ((wrap64 ((a0.size : Int) - a1)) ≥ 9)) (wrap64 (bt a0 a1)) 0 (⟨#[]⟩ : ByteArray)) else (spec_GetValue.j0 k a0 a1 1 false (wrap64 (bt a0 a1)) 0 (⟨#[]⟩ : ByteArray))) else (none)) else (none)) else (some (0, 0, (⟨#[]⟩ : ByteArray), (-1)))) = some (r1, r2, r3, r4) := H
 have A3 := Aside0.mk A30
 clear A30
 by_cases c4 : t146 = true
 ·subst c4
  have H1 : (if 0 ≤ a1 then (if a1 < (a0.size : Int) then (if (wrap64 (bt a0 a1)) = 1 then (spec_GetValue.j0 k a0 a1 1 (decide ((wrap64 ((a0.size : Int) - a1)) ≥ 9)) (wrap64 (bt a0 a1)) 0 (⟨#[]⟩ : ByteArray)) else (spec_GetValue.j0 k a0 a1 1 false (wrap64 (bt a0 a1)) 0 (⟨#[]⟩ : ByteArray))) else (none)) else (none)) = some (r1, r2, r3, r4) := by rw [if_pos rfl] at H; exact H
  clear H
  have H := H1
  clear H1
  by_cases c5 : 0 ≤ a1
  ·rw [if_pos c5] at H
   have c5b0 : decide (0 ≤ a1) = true := decide_eq_true c5
   clear c5
   by_cases c6 : a1 < (a0.size : Int)
   ·rw [if_pos c6] at H
    have c6b0 : decide (a1 < (a0.size : Int)) = true := decide_eq_true c6
    clear c6
    have HC8 := Aside0.mk H
    clear H
    go_enter Try.func26, Try.ntmps26
    go_upto_region 4 with (first | ((with_reducible refine gate_dst (N := 4) rfl ?_); (try (refine gate_guard (by rfl) ?_; dsimp only)); refine bx_ 4 #[.int .i64 0, .int .i64 0, .string (⟨#[]⟩ : ByteArray)] 42 ?_; intro gb145 hg w9 hbox hb; have BK145 := Aside0.mk (hbox); have GW145 := gw_ hg; have GE145 := gw_ hg; replace HB := bs_ hb; clear hb hbox hg) | ((with_reducible refine gate_callee (f := 33) rfl ?_); refine gsL_ (some 14) Try.func33 #[.int .i64 a1, .int .i64 0, .int .i64 (wrap64 ((a0.size : Int) - 1))] ?_; (with_reducible refine (spec_l01In.calls a1 0 (wrap64 ((a0.size : Int) - 1)) true _ A3.out).mono ?_); rintro e w' ⟨rfl, ⟨nd, rfl⟩⟩; refine ⟨_, rfl, ?_⟩; (try (rw [drewN_self w9]; generalize hq_ : World.drewN w9 _ = w9; have n0_ : Aside0 (w9.heap[gb145]? = some (.cells #[.int .i64 0, .int .i64 0, .string (⟨#[]⟩ : ByteArray)] 42 (0, 0))) := ⟨by rw [← hq_]; exact (bkx_ BK145.out)⟩; have n1_ : Aside0 (Below w.heap.size w w9) := ⟨by rw [← hq_]; exact bb_⟩; clear BK145 HB hq_; have BK145 := n0_; have HB := n1_; clear n0_ n1_)); have p7 : 0 ≤ (a1 : Int) := of_decide_eq_true (by first | (with_reducible assumption) | assumption); have q7 : a1 < (a0.size : Int) := of_decide_eq_true (by first | (with_reducible assumption) | assumption); have hx7 := bt_at a0 a1; replace p7 := eq_true p7; replace q7 := eq_true q7) | ((with_reducible refine gate_dst (N := 6) rfl ?_); (try (refine gate_guard (by rfl) ?_; dsimp only)); refine bx_ 6 #[.int .i64 0, .int .i64 0, .string (⟨#[]⟩ : ByteArray)] 42 ?_; intro gb147 hg w10 hbox hb; have BK147 := Aside0.mk (hbox); have GW147 := gw_ hg; have GE147 := gw_ hg; have NB145_147 := nl_ hg BK145; have NB147_145 := ng_ hg BK145; replace BK145 := bkb_ BK145 hb; replace HB := bs_ hb; clear hb hbox hg; have hnb11 := NB147_145.out; have hnc11 := NB145_147.out; obtain ⟨hcz12_0, hcz12_1, hcz12_2, hfz12_0, hfz12_1, hfz12_2⟩ := b3_ BK147))
    (try simp only [Act.put, List.setIfInBounds_toArray, List.set_cons_zero, List.set_cons_succ])
    go_cut [22] (fun v22 wc => ∃ (kq : Nat) (x22_7 : Bool), v22 = .bool x22_7 ∧ Aside0 (spec_GetValue.j0 kq a0 a1 1 x22_7 (wrap64 (bt a0 a1)) 0 (⟨#[]⟩ : ByteArray) = some (r1, r2, r3, r4)) ∧ Aside0 (kq ≤ k) ∧ Aside0 (wc.heap[gb145]? = some (.cells #[.int .i64 0, .int .i64 0, .string (⟨#[]⟩ : ByteArray)] 42 (0, 0))) ∧ Aside0 (wc.heap[gb147]? = some (.cells #[.int .i64 (wrap64 (bt a0 a1)), .int .i64 0, .string (⟨#[]⟩ : ByteArray)] 42 (0, 0))) ∧ Aside0 (Below w.heap.size w wc))
    case first =>
     have H := HC8.out
     clear HC8
     by_cases c13 : (wrap64 (bt a0 a1)) = 1
     ·rw [if_pos c13] at H
      have c13b0 : ((wrap64 (bt a0 a1)) == 1) = true := beq_iff_eq.mpr c13
      have c13b1 : ((wrap64 (bt a0 a1)) != 1) = false := bne_eq_false_iff_eq.mpr c13
      clear c13
      (first | rw [c13b0] | (simp only [i64_w, i32_w]; rw [c13b0]) | skip)
      have H' := Aside0.mk H
      clear H
      have hnb14 := NB147_145.out
      have hnc14 := NB145_147.out
      obtain ⟨hcz15_0, hcz15_1, hcz15_2, hfz15_0, hfz15_1, hfz15_2⟩ := b3_ BK147
      go_wp2
      go_meet
      case rel => exact ⟨_, (decide ((wrap64 ((a0.size : Int) - a1)) ≥ 9)), rs_, H', ⟨by first | omega | exact Nat.le_refl _⟩, ⟨(bf3_ NB145_147 (bkx_ BK145.out))⟩, ⟨(bp3_ (bkx_ BK147.out))⟩, ⟨bb_⟩⟩
     ·rw [if_neg c13] at H
      have c13b0 : ((wrap64 (bt a0 a1)) == 1) = false := beq_eq_false_iff_ne.mpr c13
      have c13b1 : ((wrap64 (bt a0 a1)) != 1) = true := bne_iff_ne.mpr c13
      (first | rw [c13b0] | (simp only [i64_w, i32_w]; rw [c13b0]) | skip)
      have H' := Aside0.mk H
      clear H
      have hnb16 := NB147_145.out
      have hnc16 := NB145_147.out
      obtain ⟨hcz17_0, hcz17_1, hcz17_2, hfz17_0, hfz17_1, hfz17_2⟩ := b3_ BK147
      go_wp2
      go_meet
      case rel => exact ⟨_, (false), rs_, H', ⟨by first | omega | exact Nat.le_refl _⟩, ⟨(bf3_ NB145_147 (bkx_ BK145.out))⟩, ⟨(bp3_ (bkx_ BK147.out))⟩, ⟨bb_⟩⟩
    case rest =>
     clear HC8
     try clear c1
     try clear c2
     try clear p2
     try clear c3
     try clear c4
     try clear c5
     try clear c5b0
     try clear c6
     try clear c6b0
     try clear p6
     try clear p7
     try clear q7
     try clear hx7
     try clear c11
     try clear c13
     try clear c13b0
     try clear c13b1
     try clear c14
     try clear c16
     try clear hcz12_0
     try clear hcz12_1
     try clear hcz12_2
     try clear hcz15_0
     try clear hcz15_1
     try clear hcz15_2
     try clear hcz17_0
     try clear hcz17_1
     try clear hcz17_2
     try clear hfz12_0
     try clear hfz12_1
     try clear hfz12_2
     try clear hfz15_0
     try clear hfz15_1
     try clear hfz15_2
     try clear hfz17_0
     try clear hfz17_1
     try clear hfz17_2
     try clear p7
     try clear q7
     obtain ⟨kq, x22_7, rfl, HA, HJ7, BK145, BK147, HB⟩ := hcut
     cases kq with
     | zero => exact absurd HA.out (by simp [spec_GetValue.j0])
     | succ kj7 =>
      have H := HA.out
      clear HA
      simp only [spec_GetValue.j0] at H
      by_cases c18 : x22_7 = true
      ·subst c18
       have H1 : (spec_GetValue.l0 kj7 a0 a1 0 1 (wrap64 (bt a0 a1)) 0 (⟨#[]⟩ : ByteArray)) = some (r1, r2, r3, r4) := by rw [if_pos rfl] at H; exact H
       clear H
       have H := H1
       clear H1
       have H' := Aside0.mk H
       clear H
       go_wp2
       go_loopg [8, 9] kj7 (fun kq v8 v9 w' => ∃ (x8_2 : Int) (x9_2 : Int), v8 = .int .u64 x8_2 ∧ v9 = .int .i64 x9_2 ∧ Aside0 (spec_GetValue.l0 kq a0 a1 x8_2 x9_2 (wrap64 (bt a0 a1)) 0 (⟨#[]⟩ : ByteArray) = some (r1, r2, r3, r4)) ∧ Aside0 (kq ≤ kj7) ∧ Aside0 (w'.heap[gb145]? = some (.cells #[.int .i64 0, .int .i64 0, .string (⟨#[]⟩ : ByteArray)] 42 (0, 0))) ∧ Aside0 (w'.heap[gb147]? = some (.cells #[.int .i64 (wrap64 (bt a0 a1)), .int .i64 0, .string (⟨#[]⟩ : ByteArray)] 42 (0, 0))) ∧ Aside0 (Below w.heap.size w w'))
       case atStart => exact ⟨(0), (1), rs_, rs_, H', ⟨Nat.le_refl _⟩, ⟨bkx_ BK145.out⟩, ⟨bkx_ BK147.out⟩, ⟨bb_⟩⟩
       case round =>
        clear H'
        try clear c1
        try clear c2
        try clear p2
        try clear c3
        try clear c4
        try clear c5
        try clear c5b0
        try clear c6
        try clear c6b0
        try clear p6
        try clear p7
        try clear q7
        try clear hx7
        try clear c11
        try clear c13
        try clear c13b0
        try clear c13b1
        try clear c14
        try clear c16
        try clear c18
        try clear hcz12_0
        try clear hcz12_1
        try clear hcz12_2
        try clear hcz15_0
        try clear hcz15_1
        try clear hcz15_2
        try clear hcz17_0
        try clear hcz17_1
        try clear hcz17_2
        try clear hfz12_0
        try clear hfz12_1
        try clear hfz12_2
        try clear hfz15_0
        try clear hfz15_1
        try clear hfz15_2
        try clear hfz17_0
        try clear hfz17_1
        try clear hfz17_2
        try clear p2
        try clear p6
        try clear p7
        try clear q7
        obtain ⟨x8_2, x9_2, rfl, rfl, HA, HK2, BK145, BK147, HB⟩ := hrel
        cases gk with
        | zero => exact absurd HA.out (by simp [spec_GetValue.l0])
        | succ k2 =>
         have H := HA.out
         clear HA
         simp only [spec_GetValue.l0] at H
         by_cases c19 : x9_2 < 9
         ·rw [if_pos c19] at H
          have c19b0 : decide (x9_2 < 9) = true := decide_eq_true c19
          clear c19
          obtain ⟨ji20, hji20⟩ : ∃ j_ : Int, (wrap64 (a1 + x9_2)) = j_ := ⟨_, rfl⟩
          replace H : (if 0 ≤ (ji20) then (if (ji20) < (a0.size : Int) then (spec_GetValue.l0 k2 a0 a1 (IntKind.u64.wrap ((IntKind.u64.wrap (256 * x8_2)) + (IntKind.u64.wrap (bt a0 (ji20))))) (wrap64 (x9_2 + 1)) (wrap64 (bt a0 a1)) 0 (⟨#[]⟩ : ByteArray)) else (none)) else (none)) = some (r1, r2, r3, r4) := by first | (rw [hji20] at H; exact H) | (simp only [hji20] at H ⊢; exact H)
          have hji20w : (IntKind.i64.wrap (a1 + x9_2)) = ji20 := (i64_w _).trans hji20
          by_cases c21 : 0 ≤ (ji20)
          ·rw [if_pos c21] at H
           have c21b0 : decide (0 ≤ (ji20)) = true := decide_eq_true c21
           clear c21
           by_cases c22 : (ji20) < (a0.size : Int)
           ·rw [if_pos c22] at H
            have c22b0 : decide ((ji20) < (a0.size : Int)) = true := decide_eq_true c22
            clear c22
            have H' := Aside0.mk H
            clear H
            have p23 : 0 ≤ ((ji20) : Int) := of_decide_eq_true (by first | (with_reducible assumption) | assumption)
            have q23 : (ji20) < (a0.size : Int) := of_decide_eq_true (by first | (with_reducible assumption) | assumption)
            have hx23 := bt_at a0 (ji20)
            replace p23 := eq_true p23
            replace q23 := eq_true q23
            go_wp2
            go_roundg k2
            case measure => have := HJ7.out; have := HK2.out; omega
            case rel => exact ⟨(IntKind.u64.wrap ((IntKind.u64.wrap (256 * x8_2)) + (IntKind.u64.wrap (bt a0 (ji20))))), (wrap64 (x9_2 + 1)), (by first | rfl | (simp; done) | (simp only [← hji20] <;> (first | rfl | simp)) | (simp [*]; done)), rs_, H', ⟨by have := HJ7.out; have := HK2.out; omega⟩, ⟨bkx_ BK145.out⟩, ⟨bkx_ BK147.out⟩, ⟨bb_⟩⟩
           ·rw [if_neg c22] at H
            exact absurd H (by simp)
          ·rw [if_neg c21] at H
           exact absurd H (by simp)
         ·rw [if_neg c19] at H
          have c19b0 : decide (x9_2 < 9) = false := decide_eq_false c19
          clear c19
          replace H := Option.bind_eq_some_iff.mp H
          obtain ⟨t148, A240, H⟩ := H
          replace H : (if t148 = true then (some ((wrap64 (bt a0 a1)), wrap64 (x8_2), (⟨#[]⟩ : ByteArray), wrap64 (a1 + 9))) else (some (0, 0, (⟨#[]⟩ : ByteArray), (-1)))) = some (r1, r2, r3, r4) := H
          have A24 := Aside0.mk A240
          clear A240
          by_cases c25 : t148 = true
          ·subst c25
           have H1 : (some ((wrap64 (bt a0 a1)), wrap64 (x8_2), (⟨#[]⟩ : ByteArray), wrap64 (a1 + 9))) = some (r1, r2, r3, r4) := by rw [if_pos rfl] at H; exact H
           clear H
           have H := H1
           clear H1
           simp only [Option.some.injEq, Prod.mk.injEq] at H
           obtain ⟨rfl, rfl, rfl, rfl⟩ := H
           have hnb26 := NB147_145.out
           have hnc26 := NB145_147.out
           have hcz27_0 : wr.cell? ⟨gb147, 0, none⟩ = some (.int .i64 (wrap64 (bt a0 a1))) := bc_ BK147 0
           have hcz27_1 := bc_ (v := (.int .i64 0)) BK147 1
           have hcz27_2 := bc_ (v := (.string (⟨#[]⟩ : ByteArray))) BK147 2
           have hfz27_0 := blk_frozen BK147.out 0
           have hfz27_1 := blk_frozen BK147.out 1
           have hfz27_2 := blk_frozen BK147.out 2
           go_wp2_with (first | ((with_reducible refine gate_callee (f := 35) rfl ?_); refine goesL_ (some 110) rfl rfl Try.func35 (by kernel_rfl) rfl #[.agg #[.int .i64 (wrap64 (bt a0 a1)), .int .i64 (wrap64 (x8_2)), .string (⟨#[]⟩ : ByteArray)]] rfl (by (try simp only [List.map_toArray, List.map_cons, List.map_nil]); first | done | rfl | (simp only [List.length_drop, List.length_take]; rfl)) ?_; (with_reducible refine (spec_ValueOk.calls (wrap64 (bt a0 a1)) (wrap64 (x8_2)) (⟨#[]⟩ : ByteArray) true _ A24.out).mono ?_); rintro e w28 ⟨rfl, hb⟩; refine ⟨_, rfl, ?_⟩; replace BK145 := Aside0.mk (blk_below (g := gb145) (o := .cells #[.int .i64 0, .int .i64 0, .string (⟨#[]⟩ : ByteArray)] 42 (0, 0)) (bf1_ NB145_147 (bkx_ BK145.out)) hb); replace BK147 := Aside0.mk (blk_below (g := gb147) (o := .cells #[.int .i64 (wrap64 (bt a0 a1)), .int .i64 (wrap64 (x8_2)), .string (⟨#[]⟩ : ByteArray)] 42 (0, 0)) (by (with_reducible repeat (first | refine blk_drewN ?_ _ | refine blk_drew ?_ | refine blk_alloc ?_ _)); refine blk_put (cs := #[.int .i64 (wrap64 (bt a0 a1)), .int .i64 0, .string (⟨#[]⟩ : ByteArray)]) ?_ 1 _ rfl; (with_reducible repeat (first | refine blk_drewN ?_ _ | refine blk_drew ?_ | refine blk_alloc ?_ _)); exact BK147.out) hb); replace HB := bs_ hb; (try clear hb); (try clear hb2); (try clear hk); (try clear hi); have hcz29_0 : w28.cell? ⟨gb147, 0, none⟩ = some (.int .i64 (wrap64 (bt a0 a1))) := bc_ BK147 0; have hcz29_1 : w28.cell? ⟨gb147, 1, none⟩ = some (.int .i64 (wrap64 (x8_2))) := bc_ BK147 1; have hcz29_2 := bc_ (v := (.string (⟨#[]⟩ : ByteArray))) BK147 2; have hfz29_0 := blk_frozen BK147.out 0; have hfz29_1 := blk_frozen BK147.out 1; have hfz29_2 := blk_frozen BK147.out 2; obtain ⟨hcz30_0, hcz30_1, hcz30_2, hfz30_0, hfz30_1, hfz30_2⟩ := b3_ BK145))
           refine bodyPost_ret (results_ct rfl _ _ gb145 42 #[.int .i64 (wrap64 (bt a0 a1)), .int .i64 (wrap64 (x8_2)), .string (⟨#[]⟩ : ByteArray)] (0, 0) _ rfl (bp3_ (bkx_ BK145.out)) Try.underlying42 rfl (by kernel_rfl)) rfl ?_
           exact ⟨er_, bb_⟩
          ·replace c25 := Bool.eq_false_iff.mpr c25
           subst c25
           have H1 : (some (0, 0, (⟨#[]⟩ : ByteArray), (-1))) = some (r1, r2, r3, r4) := by rw [if_neg (show ¬ (false = true) by decide)] at H; exact H
           clear H
           have H := H1
           clear H1
           simp only [Option.some.injEq, Prod.mk.injEq] at H
           obtain ⟨rfl, rfl, rfl, rfl⟩ := H
           have hnb31 := NB147_145.out
           have hnc31 := NB145_147.out
           have hcz32_0 : wr.cell? ⟨gb147, 0, none⟩ = some (.int .i64 (wrap64 (bt a0 a1))) := bc_ BK147 0
           have hcz32_1 := bc_ (v := (.int .i64 0)) BK147 1
           have hcz32_2 := bc_ (v := (.string (⟨#[]⟩ : ByteArray))) BK147 2
           have hfz32_0 := blk_frozen BK147.out 0
           have hfz32_1 := blk_frozen BK147.out 1
           have hfz32_2 := blk_frozen BK147.out 2
           go_wp2_with (first | ((with_reducible refine gate_callee (f := 35) rfl ?_); refine goesL_ (some 110) rfl rfl Try.func35 (by kernel_rfl) rfl #[.agg #[.int .i64 (wrap64 (bt a0 a1)), .int .i64 (wrap64 (x8_2)), .string (⟨#[]⟩ : ByteArray)]] rfl (by (try simp only [List.map_toArray, List.map_cons, List.map_nil]); first | done | rfl | (simp only [List.length_drop, List.length_take]; rfl)) ?_; (with_reducible refine (spec_ValueOk.calls (wrap64 (bt a0 a1)) (wrap64 (x8_2)) (⟨#[]⟩ : ByteArray) false _ A24.out).mono ?_); rintro e w33 ⟨rfl, hb⟩; refine ⟨_, rfl, ?_⟩; replace BK145 := Aside0.mk (blk_below (g := gb145) (o := .cells #[.int .i64 0, .int .i64 0, .string (⟨#[]⟩ : ByteArray)] 42 (0, 0)) (bf1_ NB145_147 (bkx_ BK145.out)) hb); replace BK147 := Aside0.mk (blk_below (g := gb147) (o := .cells #[.int .i64 (wrap64 (bt a0 a1)), .int .i64 (wrap64 (x8_2)), .string (⟨#[]⟩ : ByteArray)] 42 (0, 0)) (by (with_reducible repeat (first | refine blk_drewN ?_ _ | refine blk_drew ?_ | refine blk_alloc ?_ _)); refine blk_put (cs := #[.int .i64 (wrap64 (bt a0 a1)), .int .i64 0, .string (⟨#[]⟩ : ByteArray)]) ?_ 1 _ rfl; (with_reducible repeat (first | refine blk_drewN ?_ _ | refine blk_drew ?_ | refine blk_alloc ?_ _)); exact BK147.out) hb); replace HB := bs_ hb; (try clear hb); (try clear hb2); (try clear hk); (try clear hi); obtain ⟨hcz34_0, hcz34_1, hcz34_2, hfz34_0, hfz34_1, hfz34_2⟩ := b3_ BK145))
           refine bodyPost_ret (results_ct rfl _ _ gb145 42 #[.int .i64 0, .int .i64 0, .string (⟨#[]⟩ : ByteArray)] (0, 0) _ rfl (bp3_ (bkx_ BK145.out)) Try.underlying42 rfl (by kernel_rfl)) rfl ?_
           exact ⟨er_, bb_⟩
      ·replace c18 := Bool.eq_false_iff.mpr c18
       subst c18
       have H1 : (if (wrap64 (bt a0 a1)) = 2 then (spec_GetValue.j2 kj7 a0 a1 1 (decide ((wrap64 ((a0.size : Int) - a1)) ≥ 2)) (wrap64 (bt a0 a1)) 0 (⟨#[]⟩ : ByteArray)) else (spec_GetValue.j2 kj7 a0 a1 1 false (wrap64 (bt a0 a1)) 0 (⟨#[]⟩ : ByteArray))) = some (r1, r2, r3, r4) := by rw [if_neg (show ¬ (false = true) by decide)] at H; exact H
       clear H
       have H := H1
       clear H1
       have HC35 := Aside0.mk H
       clear H
       go_upto_region 12 with (fail)
       go_cut [49] (fun v49 wc => ∃ (kq : Nat) (x49_34 : Bool), v49 = .bool x49_34 ∧ Aside0 (spec_GetValue.j2 kq a0 a1 1 x49_34 (wrap64 (bt a0 a1)) 0 (⟨#[]⟩ : ByteArray) = some (r1, r2, r3, r4)) ∧ Aside0 (kq ≤ kj7) ∧ Aside0 (wc.heap[gb145]? = some (.cells #[.int .i64 0, .int .i64 0, .string (⟨#[]⟩ : ByteArray)] 42 (0, 0))) ∧ Aside0 (wc.heap[gb147]? = some (.cells #[.int .i64 (wrap64 (bt a0 a1)), .int .i64 0, .string (⟨#[]⟩ : ByteArray)] 42 (0, 0))) ∧ Aside0 (Below w.heap.size w wc))
       case first =>
        have H := HC35.out
        clear HC35
        by_cases c36 : (wrap64 (bt a0 a1)) = 2
        ·rw [if_pos c36] at H
         have c36b0 : ((wrap64 (bt a0 a1)) == 2) = true := beq_iff_eq.mpr c36
         have c36b1 : ((wrap64 (bt a0 a1)) != 2) = false := bne_eq_false_iff_eq.mpr c36
         clear c36
         (first | rw [c36b0] | (simp only [i64_w, i32_w]; rw [c36b0]) | skip)
         have H' := Aside0.mk H
         clear H
         have hnb37 := NB147_145.out
         have hnc37 := NB145_147.out
         have hcz38_0 : wc.cell? ⟨gb147, 0, none⟩ = some (.int .i64 (wrap64 (bt a0 a1))) := bc_ BK147 0
         have hcz38_1 := bc_ (v := (.int .i64 0)) BK147 1
         have hcz38_2 := bc_ (v := (.string (⟨#[]⟩ : ByteArray))) BK147 2
         have hfz38_0 := blk_frozen BK147.out 0
         have hfz38_1 := blk_frozen BK147.out 1
         have hfz38_2 := blk_frozen BK147.out 2
         go_wp2
         go_meet
         case rel => exact ⟨_, (decide ((wrap64 ((a0.size : Int) - a1)) ≥ 2)), rs_, H', ⟨by have := HJ7.out; first | omega | exact Nat.le_refl _⟩, ⟨bkx_ BK145.out⟩, ⟨bkx_ BK147.out⟩, ⟨bb_⟩⟩
        ·rw [if_neg c36] at H
         have c36b0 : ((wrap64 (bt a0 a1)) == 2) = false := beq_eq_false_iff_ne.mpr c36
         have c36b1 : ((wrap64 (bt a0 a1)) != 2) = true := bne_iff_ne.mpr c36
         (first | rw [c36b0] | (simp only [i64_w, i32_w]; rw [c36b0]) | skip)
         have H' := Aside0.mk H
         clear H
         have hnb39 := NB147_145.out
         have hnc39 := NB145_147.out
         have hcz40_0 : wc.cell? ⟨gb147, 0, none⟩ = some (.int .i64 (wrap64 (bt a0 a1))) := bc_ BK147 0
         have hcz40_1 := bc_ (v := (.int .i64 0)) BK147 1
         have hcz40_2 := bc_ (v := (.string (⟨#[]⟩ : ByteArray))) BK147 2
         have hfz40_0 := blk_frozen BK147.out 0
         have hfz40_1 := blk_frozen BK147.out 1
         have hfz40_2 := blk_frozen BK147.out 2
         go_wp2
         go_meet
         case rel => exact ⟨_, (false), rs_, H', ⟨by have := HJ7.out; first | omega | exact Nat.le_refl _⟩, ⟨bkx_ BK145.out⟩, ⟨bkx_ BK147.out⟩, ⟨bb_⟩⟩
       case rest =>
        clear HC35
        try clear c1
        try clear c2
        try clear p2
        try clear q2
        try clear hx2
        try clear c3
        try clear c4
        try clear c5
        try clear c5b0
        try clear c6
        try clear c6b0
        try clear p6
        try clear p7
        try clear q7
        try clear hx7
        try clear c11
        try clear c13
        try clear c13b0
        try clear c13b1
        try clear c14
        try clear c16
        try clear c18
        try clear c19
        try clear c19b0
        try clear c21
        try clear c21b0
        try clear c22
        try clear c22b0
        try clear p23
        try clear q23
        try clear hx23
        try clear c25
        try clear c26
        try clear c31
        try clear c33
        try clear c35
        try clear c36
        try clear c36b0
        try clear c36b1
        try clear c37
        try clear c39
        try clear hcz12_0
        try clear hcz12_1
        try clear hcz12_2
        try clear hcz15_0
        try clear hcz15_1
        try clear hcz15_2
        try clear hcz17_0
        try clear hcz17_1
        try clear hcz17_2
        try clear hcz27_0
        try clear hcz27_1
        try clear hcz27_2
        try clear hcz29_0
        try clear hcz29_1
        try clear hcz29_2
        try clear hcz30_0
        try clear hcz30_1
        try clear hcz30_2
        try clear hcz32_0
        try clear hcz32_1
        try clear hcz32_2
        try clear hcz34_0
        try clear hcz34_1
        try clear hcz34_2
        try clear hcz38_0
        try clear hcz38_1
        try clear hcz38_2
        try clear hcz40_0
        try clear hcz40_1
        try clear hcz40_2
        try clear hfz12_0
        try clear hfz12_1
        try clear hfz12_2
        try clear hfz15_0
        try clear hfz15_1
        try clear hfz15_2
        try clear hfz17_0
        try clear hfz17_1
        try clear hfz17_2
        try clear hfz27_0
        try clear hfz27_1
        try clear hfz27_2
        try clear hfz29_0
        try clear hfz29_1
        try clear hfz29_2
        try clear hfz30_0
        try clear hfz30_1
        try clear hfz30_2
        try clear hfz32_0
        try clear hfz32_1
        try clear hfz32_2
        try clear hfz34_0
        try clear hfz34_1
        try clear hfz34_2
        try clear hfz38_0
        try clear hfz38_1
        try clear hfz38_2
        try clear hfz40_0
        try clear hfz40_1
        try clear hfz40_2
        try clear p2
        try clear p23
        try clear p6
        try clear p7
        try clear q23
        try clear q7
        obtain ⟨kq, x49_34, rfl, HA, HJ34, BK145, BK147, HB⟩ := hcut
        cases kq with
        | zero => exact absurd HA.out (by simp [spec_GetValue.j2])
        | succ kj34 =>
         have H := HA.out
         clear HA
         simp only [spec_GetValue.j2] at H
         by_cases c41 : x49_34 = true
         ·subst c41
          have H1 : (if 0 ≤ (wrap64 (a1 + 1)) then (if (wrap64 (a1 + 1)) < (a0.size : Int) then ((spec_ValueOk.f (wrap64 (bt a0 a1)) (wrap64 (bt a0 (wrap64 (a1 + 1)))) (⟨#[]⟩ : ByteArray)).bind fun t149 => (if t149 = true then (some ((wrap64 (bt a0 a1)), wrap64 (bt a0 (wrap64 (a1 + 1))), (⟨#[]⟩ : ByteArray), wrap64 (a1 + 2))) else (some (0, 0, (⟨#[]⟩ : ByteArray), (-1))))) else (none)) else (none)) = some (r1, r2, r3, r4) := by rw [if_pos rfl] at H; exact H
          clear H
          have H := H1
          clear H1
          obtain ⟨ji42, hji42⟩ : ∃ j_ : Int, (wrap64 (a1 + 1)) = j_ := ⟨_, rfl⟩
          replace H : (if 0 ≤ (ji42) then (if (ji42) < (a0.size : Int) then ((spec_ValueOk.f (wrap64 (bt a0 a1)) (wrap64 (bt a0 (ji42))) (⟨#[]⟩ : ByteArray)).bind fun t149 => (if t149 = true then (some ((wrap64 (bt a0 a1)), wrap64 (bt a0 (ji42)), (⟨#[]⟩ : ByteArray), wrap64 (a1 + 2))) else (some (0, 0, (⟨#[]⟩ : ByteArray), (-1))))) else (none)) else (none)) = some (r1, r2, r3, r4) := by first | (rw [hji42] at H; exact H) | (simp only [hji42] at H ⊢; exact H)
          have hji42w : (IntKind.i64.wrap (a1 + 1)) = ji42 := (i64_w _).trans hji42
          by_cases c43 : 0 ≤ (ji42)
          ·rw [if_pos c43] at H
           have c43b0 : decide (0 ≤ (ji42)) = true := decide_eq_true c43
           clear c43
           by_cases c44 : (ji42) < (a0.size : Int)
           ·rw [if_pos c44] at H
            have c44b0 : decide ((ji42) < (a0.size : Int)) = true := decide_eq_true c44
            clear c44
            replace H := Option.bind_eq_some_iff.mp H
            obtain ⟨t149, A460, H⟩ := H
            replace H : (if t149 = true then (some ((wrap64 (bt a0 a1)), wrap64 (bt a0 (ji42)), (⟨#[]⟩ : ByteArray), wrap64 (a1 + 2))) else (some (0, 0, (⟨#[]⟩ : ByteArray), (-1)))) = some (r1, r2, r3, r4) := H
            have A46 := Aside0.mk A460
            clear A460
            by_cases c47 : t149 = true
            ·subst c47
             have H1 : (some ((wrap64 (bt a0 a1)), wrap64 (bt a0 (ji42)), (⟨#[]⟩ : ByteArray), wrap64 (a1 + 2))) = some (r1, r2, r3, r4) := by rw [if_pos rfl] at H; exact H
             clear H
             have H := H1
             clear H1
             simp only [Option.some.injEq, Prod.mk.injEq] at H
             obtain ⟨rfl, rfl, rfl, rfl⟩ := H
             have p45 : 0 ≤ ((ji42) : Int) := of_decide_eq_true (by first | (with_reducible assumption) | assumption)
             have q45 : (ji42) < (a0.size : Int) := of_decide_eq_true (by first | (with_reducible assumption) | assumption)
             have hx45 := bt_at a0 (ji42)
             replace p45 := eq_true p45
             replace q45 := eq_true q45
             have hnb48 := NB147_145.out
             have hnc48 := NB145_147.out
             have hcz49_0 : wc.cell? ⟨gb147, 0, none⟩ = some (.int .i64 (wrap64 (bt a0 a1))) := bc_ BK147 0
             have hcz49_1 := bc_ (v := (.int .i64 0)) BK147 1
             have hcz49_2 := bc_ (v := (.string (⟨#[]⟩ : ByteArray))) BK147 2
             have hfz49_0 := blk_frozen BK147.out 0
             have hfz49_1 := blk_frozen BK147.out 1
             have hfz49_2 := blk_frozen BK147.out 2
             go_wp2_with (first | ((with_reducible refine gate_callee (f := 35) rfl ?_); refine goesL_ (some 110) rfl rfl Try.func35 (by kernel_rfl) rfl #[.agg #[.int .i64 (wrap64 (bt a0 a1)), .int .i64 (wrap64 (bt a0 (ji42))), .string (⟨#[]⟩ : ByteArray)]] rfl (by (try simp only [List.map_toArray, List.map_cons, List.map_nil]); first | done | (simp only [hji42]; rfl) | rfl | (simp only [List.length_drop, List.length_take]; rfl)) ?_; (with_reducible refine (spec_ValueOk.calls (wrap64 (bt a0 a1)) (wrap64 (bt a0 (ji42))) (⟨#[]⟩ : ByteArray) true _ A46.out).mono ?_); rintro e w50 ⟨rfl, hb⟩; refine ⟨_, rfl, ?_⟩; replace BK145 := Aside0.mk (blk_below (g := gb145) (o := .cells #[.int .i64 0, .int .i64 0, .string (⟨#[]⟩ : ByteArray)] 42 (0, 0)) (bf1_ NB145_147 (bkx_ BK145.out)) hb); replace BK147 := Aside0.mk (blk_below (g := gb147) (o := .cells #[.int .i64 (wrap64 (bt a0 a1)), .int .i64 (wrap64 (bt a0 (ji42))), .string (⟨#[]⟩ : ByteArray)] 42 (0, 0)) (by (with_reducible repeat (first | refine blk_drewN ?_ _ | refine blk_drew ?_ | refine blk_alloc ?_ _)); refine blk_put (cs := #[.int .i64 (wrap64 (bt a0 a1)), .int .i64 0, .string (⟨#[]⟩ : ByteArray)]) ?_ 1 _ rfl; (with_reducible repeat (first | refine blk_drewN ?_ _ | refine blk_drew ?_ | refine blk_alloc ?_ _)); exact BK147.out) hb); replace HB := bs_ hb; (try clear hb); (try clear hb2); (try clear hk); (try clear hi); have hcz51_0 : w50.cell? ⟨gb147, 0, none⟩ = some (.int .i64 (wrap64 (bt a0 a1))) := bc_ BK147 0; have hcz51_1 : w50.cell? ⟨gb147, 1, none⟩ = some (.int .i64 (wrap64 (bt a0 (ji42)))) := bc_ BK147 1; have hcz51_2 := bc_ (v := (.string (⟨#[]⟩ : ByteArray))) BK147 2; have hfz51_0 := blk_frozen BK147.out 0; have hfz51_1 := blk_frozen BK147.out 1; have hfz51_2 := blk_frozen BK147.out 2; obtain ⟨hcz52_0, hcz52_1, hcz52_2, hfz52_0, hfz52_1, hfz52_2⟩ := b3_ BK145))
             refine bodyPost_ret (results_ct rfl _ _ gb145 42 #[.int .i64 (wrap64 (bt a0 a1)), .int .i64 (wrap64 (bt a0 (ji42))), .string (⟨#[]⟩ : ByteArray)] (0, 0) _ rfl (bp3_ (bkx_ BK145.out)) Try.underlying42 rfl (by kernel_rfl)) rfl ?_
             exact ⟨by first | rfl | (simp [errW_none, errW_some] <;> rfl) | (simp only [← hji42]; first | rfl | (simp [errW_none, errW_some] <;> rfl)) | (simp [*, errW_none, errW_some] <;> rfl), by repeat (first | (with_reducible first | exact HB.out | apply below_alloc | apply pw_below_drewN | apply below_drew1 | refine below_set ?_ GE145.out | refine below_set ?_ GE147.out) | exact HB.out)⟩
            ·replace c47 := Bool.eq_false_iff.mpr c47
             subst c47
             have H1 : (some (0, 0, (⟨#[]⟩ : ByteArray), (-1))) = some (r1, r2, r3, r4) := by rw [if_neg (show ¬ (false = true) by decide)] at H; exact H
             clear H
             have H := H1
             clear H1
             simp only [Option.some.injEq, Prod.mk.injEq] at H
             obtain ⟨rfl, rfl, rfl, rfl⟩ := H
             have p45 : 0 ≤ ((ji42) : Int) := of_decide_eq_true (by first | (with_reducible assumption) | assumption)
             have q45 : (ji42) < (a0.size : Int) := of_decide_eq_true (by first | (with_reducible assumption) | assumption)
             have hx45 := bt_at a0 (ji42)
             replace p45 := eq_true p45
             replace q45 := eq_true q45
             have hnb53 := NB147_145.out
             have hnc53 := NB145_147.out
             have hcz54_0 : wc.cell? ⟨gb147, 0, none⟩ = some (.int .i64 (wrap64 (bt a0 a1))) := bc_ BK147 0
             have hcz54_1 := bc_ (v := (.int .i64 0)) BK147 1
             have hcz54_2 := bc_ (v := (.string (⟨#[]⟩ : ByteArray))) BK147 2
             have hfz54_0 := blk_frozen BK147.out 0
             have hfz54_1 := blk_frozen BK147.out 1
             have hfz54_2 := blk_frozen BK147.out 2
             go_wp2_with (first | ((with_reducible refine gate_callee (f := 35) rfl ?_); refine goesL_ (some 110) rfl rfl Try.func35 (by kernel_rfl) rfl #[.agg #[.int .i64 (wrap64 (bt a0 a1)), .int .i64 (wrap64 (bt a0 (ji42))), .string (⟨#[]⟩ : ByteArray)]] rfl (by (try simp only [List.map_toArray, List.map_cons, List.map_nil]); first | done | (simp only [hji42]; rfl) | rfl | (simp only [List.length_drop, List.length_take]; rfl)) ?_; (with_reducible refine (spec_ValueOk.calls (wrap64 (bt a0 a1)) (wrap64 (bt a0 (ji42))) (⟨#[]⟩ : ByteArray) false _ A46.out).mono ?_); rintro e w55 ⟨rfl, hb⟩; refine ⟨_, rfl, ?_⟩; replace BK145 := Aside0.mk (blk_below (g := gb145) (o := .cells #[.int .i64 0, .int .i64 0, .string (⟨#[]⟩ : ByteArray)] 42 (0, 0)) (bf1_ NB145_147 (bkx_ BK145.out)) hb); replace BK147 := Aside0.mk (blk_below (g := gb147) (o := .cells #[.int .i64 (wrap64 (bt a0 a1)), .int .i64 (wrap64 (bt a0 (ji42))), .string (⟨#[]⟩ : ByteArray)] 42 (0, 0)) (by (with_reducible repeat (first | refine blk_drewN ?_ _ | refine blk_drew ?_ | refine blk_alloc ?_ _)); refine blk_put (cs := #[.int .i64 (wrap64 (bt a0 a1)), .int .i64 0, .string (⟨#[]⟩ : ByteArray)]) ?_ 1 _ rfl; (with_reducible repeat (first | refine blk_drewN ?_ _ | refine blk_drew ?_ | refine blk_alloc ?_ _)); exact BK147.out) hb); replace HB := bs_ hb; (try clear hb); (try clear hb2); (try clear hk); (try clear hi); obtain ⟨hcz56_0, hcz56_1, hcz56_2, hfz56_0, hfz56_1, hfz56_2⟩ := b3_ BK145))
             refine bodyPost_ret (results_ct rfl _ _ gb145 42 #[.int .i64 0, .int .i64 0, .string (⟨#[]⟩ : ByteArray)] (0, 0) _ rfl (bp3_ (bkx_ BK145.out)) Try.underlying42 rfl (by kernel_rfl)) rfl ?_
             exact ⟨by first | rfl | (simp [errW_none, errW_some] <;> rfl) | (simp only [← hji42]; first | rfl | (simp [errW_none, errW_some] <;> rfl)) | (simp [*, errW_none, errW_some] <;> rfl), by repeat (first | (with_reducible first | exact HB.out | apply below_alloc | apply pw_below_drewN | apply below_drew1 | refine below_set ?_ GE145.out | refine below_set ?_ GE147.out) | exact HB.out)⟩
           ·rw [if_neg c44] at H
            exact absurd H (by simp)
          ·rw [if_neg c43] at H
           exact absurd H (by simp)
         ·replace c41 := Bool.eq_false_iff.mpr c41
          subst c41
          have H1 : (if (wrap64 (bt a0 a1)) = 3 then (if (wrap64 ((a0.size : Int) - a1)) ≥ 2 then (if 0 ≤ (wrap64 (a1 + 1)) then (if (wrap64 (a1 + 1)) < (a0.size : Int) then (spec_GetValue.j3 kj34 a0 a1 1 (decide ((wrap64 ((wrap64 ((a0.size : Int) - a1)) - 2)) ≥ (wrap64 (bt a0 (wrap64 (a1 + 1)))))) (wrap64 (bt a0 a1)) 0 (⟨#[]⟩ : ByteArray)) else (none)) else (none)) else (spec_GetValue.j3 kj34 a0 a1 1 false (wrap64 (bt a0 a1)) 0 (⟨#[]⟩ : ByteArray))) else (spec_GetValue.j3 kj34 a0 a1 1 false (wrap64 (bt a0 a1)) 0 (⟨#[]⟩ : ByteArray))) = some (r1, r2, r3, r4) := by rw [if_neg (show ¬ (false = true) by decide)] at H; exact H
          clear H
          have H := H1
          clear H1
          have HC57 := Aside0.mk H
          clear H
          go_upto_region 15 with (fail)
          go_cut [66] (fun v66 wc => ∃ (kq : Nat) (x66_56 : Bool), v66 = .bool x66_56 ∧ Aside0 (spec_GetValue.j3 kq a0 a1 1 x66_56 (wrap64 (bt a0 a1)) 0 (⟨#[]⟩ : ByteArray) = some (r1, r2, r3, r4)) ∧ Aside0 (kq ≤ kj34) ∧ Aside0 (wc.heap[gb145]? = some (.cells #[.int .i64 0, .int .i64 0, .string (⟨#[]⟩ : ByteArray)] 42 (0, 0))) ∧ Aside0 (wc.heap[gb147]? = some (.cells #[.int .i64 (wrap64 (bt a0 a1)), .int .i64 0, .string (⟨#[]⟩ : ByteArray)] 42 (0, 0))) ∧ Aside0 (Below w.heap.size w wc))
          case first =>
           have H := HC57.out
           clear HC57
           by_cases c58 : (wrap64 (bt a0 a1)) = 3
           ·rw [if_pos c58] at H
            have c58b0 : ((wrap64 (bt a0 a1)) == 3) = true := beq_iff_eq.mpr c58
            have c58b1 : ((wrap64 (bt a0 a1)) != 3) = false := bne_eq_false_iff_eq.mpr c58
            clear c58
            (first | rw [c58b0] | (simp only [i64_w, i32_w]; rw [c58b0]) | skip)
            by_cases c59 : (wrap64 ((a0.size : Int) - a1)) ≥ 2
            ·rw [if_pos c59] at H
             have c59b0 : decide (2 ≤ (wrap64 ((a0.size : Int) - a1))) = true := decide_eq_true c59
             clear c59
             obtain ⟨ji60, hji60⟩ : ∃ j_ : Int, (wrap64 (a1 + 1)) = j_ := ⟨_, rfl⟩
             replace H : (if 0 ≤ (ji60) then (if (ji60) < (a0.size : Int) then (spec_GetValue.j3 kj34 a0 a1 1 (decide ((wrap64 ((wrap64 ((a0.size : Int) - a1)) - 2)) ≥ (wrap64 (bt a0 (ji60))))) (wrap64 (bt a0 a1)) 0 (⟨#[]⟩ : ByteArray)) else (none)) else (none)) = some (r1, r2, r3, r4) := by first | (rw [hji60] at H; exact H) | (simp only [hji60] at H ⊢; exact H)
             have hji60w : (IntKind.i64.wrap (a1 + 1)) = ji60 := (i64_w _).trans hji60
             by_cases c61 : 0 ≤ (ji60)
             ·rw [if_pos c61] at H
              have c61b0 : decide (0 ≤ (ji60)) = true := decide_eq_true c61
              clear c61
              by_cases c62 : (ji60) < (a0.size : Int)
              ·rw [if_pos c62] at H
               have c62b0 : decide ((ji60) < (a0.size : Int)) = true := decide_eq_true c62
               clear c62
               have H' := Aside0.mk H
               clear H
               have hnb64 := NB147_145.out
               have hnc64 := NB145_147.out
               have hcz65_0 : wc.cell? ⟨gb147, 0, none⟩ = some (.int .i64 (wrap64 (bt a0 a1))) := bc_ BK147 0
               have hcz65_1 := bc_ (v := (.int .i64 0)) BK147 1
               have hcz65_2 := bc_ (v := (.string (⟨#[]⟩ : ByteArray))) BK147 2
               have hfz65_0 := blk_frozen BK147.out 0
               have hfz65_1 := blk_frozen BK147.out 1
               have hfz65_2 := blk_frozen BK147.out 2
               have p63 : 0 ≤ ((ji60) : Int) := of_decide_eq_true (by first | (with_reducible assumption) | assumption)
               have q63 : (ji60) < (a0.size : Int) := of_decide_eq_true (by first | (with_reducible assumption) | assumption)
               have hx63 := bt_at a0 (ji60)
               replace p63 := eq_true p63
               replace q63 := eq_true q63
               go_wp2
               go_meet
               case rel => exact ⟨_, (decide ((wrap64 ((wrap64 ((a0.size : Int) - a1)) - 2)) ≥ (wrap64 (bt a0 (ji60))))), (by first | rfl | (simp; done) | (simp only [← hji60] <;> (first | rfl | simp)) | (simp [*]; done)), H', ⟨by have := HJ7.out; have := HJ34.out; first | omega | exact Nat.le_refl _⟩, ⟨bkx_ BK145.out⟩, ⟨bkx_ BK147.out⟩, ⟨bb_⟩⟩
              ·rw [if_neg c62] at H
               exact absurd H (by simp)
             ·rw [if_neg c61] at H
              exact absurd H (by simp)
            ·rw [if_neg c59] at H
             have c59b0 : decide (2 ≤ (wrap64 ((a0.size : Int) - a1))) = false := decide_eq_false c59
             clear c59
             have H' := Aside0.mk H
             clear H
             have hnb66 := NB147_145.out
             have hnc66 := NB145_147.out
             have hcz67_0 : wc.cell? ⟨gb147, 0, none⟩ = some (.int .i64 (wrap64 (bt a0 a1))) := bc_ BK147 0
             have hcz67_1 := bc_ (v := (.int .i64 0)) BK147 1
             have hcz67_2 := bc_ (v := (.string (⟨#[]⟩ : ByteArray))) BK147 2
             have hfz67_0 := blk_frozen BK147.out 0
             have hfz67_1 := blk_frozen BK147.out 1
             have hfz67_2 := blk_frozen BK147.out 2
             go_wp2
             go_meet
             case rel => exact ⟨_, (false), rs_, H', ⟨by have := HJ7.out; have := HJ34.out; first | omega | exact Nat.le_refl _⟩, ⟨bkx_ BK145.out⟩, ⟨bkx_ BK147.out⟩, ⟨bb_⟩⟩
           ·rw [if_neg c58] at H
            have c58b0 : ((wrap64 (bt a0 a1)) == 3) = false := beq_eq_false_iff_ne.mpr c58
            have c58b1 : ((wrap64 (bt a0 a1)) != 3) = true := bne_iff_ne.mpr c58
            (first | rw [c58b0] | (simp only [i64_w, i32_w]; rw [c58b0]) | skip)
            have H' := Aside0.mk H
            clear H
            have hnb68 := NB147_145.out
            have hnc68 := NB145_147.out
            have hcz69_0 : wc.cell? ⟨gb147, 0, none⟩ = some (.int .i64 (wrap64 (bt a0 a1))) := bc_ BK147 0
            have hcz69_1 := bc_ (v := (.int .i64 0)) BK147 1
            have hcz69_2 := bc_ (v := (.string (⟨#[]⟩ : ByteArray))) BK147 2
            have hfz69_0 := blk_frozen BK147.out 0
            have hfz69_1 := blk_frozen BK147.out 1
            have hfz69_2 := blk_frozen BK147.out 2
            go_wp2
            go_meet
            case rel => exact ⟨_, (false), rs_, H', ⟨by have := HJ7.out; have := HJ34.out; first | omega | exact Nat.le_refl _⟩, ⟨bkx_ BK145.out⟩, ⟨bkx_ BK147.out⟩, ⟨bb_⟩⟩
          case rest =>
           clear HC57
           try clear c1
           try clear c2
           try clear p2
           try clear q2
           try clear hx2
           try clear c3
           try clear c4
           try clear p4
           try clear q4
           try clear hx4
           try clear c5
           try clear c5b0
           try clear c6
           try clear c6b0
           try clear p6
           try clear q6
           try clear hx6
           try clear p7
           try clear q7
           try clear hx7
           try clear c11
           try clear c13
           try clear c13b0
           try clear c13b1
           try clear c14
           try clear c16
           try clear c18
           try clear c19
           try clear c19b0
           try clear c21
           try clear c21b0
           try clear c22
           try clear c22b0
           try clear p23
           try clear q23
           try clear hx23
           try clear c25
           try clear c26
           try clear c31
           try clear c33
           try clear c35
           try clear c36
           try clear c36b0
           try clear c36b1
           try clear c37
           try clear c39
           try clear c41
           try clear c43
           try clear c43b0
           try clear c44
           try clear c44b0
           try clear p45
           try clear q45
           try clear hx45
           try clear c47
           try clear c48
           try clear c53
           try clear c58
           try clear c58b0
           try clear c58b1
           try clear c59
           try clear c59b0
           try clear c61
           try clear c61b0
           try clear c62
           try clear c62b0
           try clear p63
           try clear q63
           try clear hx63
           try clear c64
           try clear p64
           try clear c66
           try clear c68
           try clear hcz12_0
           try clear hcz12_1
           try clear hcz12_2
           try clear hcz15_0
           try clear hcz15_1
           try clear hcz15_2
           try clear hcz17_0
           try clear hcz17_1
           try clear hcz17_2
           try clear hcz27_0
           try clear hcz27_1
           try clear hcz27_2
           try clear hcz29_0
           try clear hcz29_1
           try clear hcz29_2
           try clear hcz30_0
           try clear hcz30_1
           try clear hcz30_2
           try clear hcz32_0
           try clear hcz32_1
           try clear hcz32_2
           try clear hcz34_0
           try clear hcz34_1
           try clear hcz34_2
           try clear hcz38_0
           try clear hcz38_1
           try clear hcz38_2
           try clear hcz40_0
           try clear hcz40_1
           try clear hcz40_2
           try clear hcz49_0
           try clear hcz49_1
           try clear hcz49_2
           try clear hcz51_0
           try clear hcz51_1
           try clear hcz51_2
           try clear hcz52_0
           try clear hcz52_1
           try clear hcz52_2
           try clear hcz54_0
           try clear hcz54_1
           try clear hcz54_2
           try clear hcz56_0
           try clear hcz56_1
           try clear hcz56_2
           try clear hcz65_0
           try clear hcz65_1
           try clear hcz65_2
           try clear hcz67_0
           try clear hcz67_1
           try clear hcz67_2
           try clear hcz69_0
           try clear hcz69_1
           try clear hcz69_2
           try clear hfz12_0
           try clear hfz12_1
           try clear hfz12_2
           try clear hfz15_0
           try clear hfz15_1
           try clear hfz15_2
           try clear hfz17_0
           try clear hfz17_1
           try clear hfz17_2
           try clear hfz27_0
           try clear hfz27_1
           try clear hfz27_2
           try clear hfz29_0
           try clear hfz29_1
           try clear hfz29_2
           try clear hfz30_0
           try clear hfz30_1
           try clear hfz30_2
           try clear hfz32_0
           try clear hfz32_1
           try clear hfz32_2
           try clear hfz34_0
           try clear hfz34_1
           try clear hfz34_2
           try clear hfz38_0
           try clear hfz38_1
           try clear hfz38_2
           try clear hfz40_0
           try clear hfz40_1
           try clear hfz40_2
           try clear hfz49_0
           try clear hfz49_1
           try clear hfz49_2
           try clear hfz51_0
           try clear hfz51_1
           try clear hfz51_2
           try clear hfz52_0
           try clear hfz52_1
           try clear hfz52_2
           try clear hfz54_0
           try clear hfz54_1
           try clear hfz54_2
           try clear hfz56_0
           try clear hfz56_1
           try clear hfz56_2
           try clear hfz65_0
           try clear hfz65_1
           try clear hfz65_2
           try clear hfz67_0
           try clear hfz67_1
           try clear hfz67_2
           try clear hfz69_0
           try clear hfz69_1
           try clear hfz69_2
           try clear p2
           try clear p23
           try clear p45
           try clear p6
           try clear p63
           try clear p7
           try clear q2
           try clear q23
           try clear q45
           try clear q63
           try clear q7
           obtain ⟨kq, x66_56, rfl, HA, HJ56, BK145, BK147, HB⟩ := hcut
           cases kq with
           | zero => exact absurd HA.out (by simp [spec_GetValue.j3])
           | succ kj56 =>
            have H := HA.out
            clear HA
            simp only [spec_GetValue.j3] at H
            by_cases c70 : x66_56 = true
            ·subst c70
             have H1 : (if 0 ≤ (wrap64 (a1 + 1)) then (if (wrap64 (a1 + 1)) < (a0.size : Int) then (if 0 ≤ (wrap64 (a1 + 2)) then (if (wrap64 (a1 + 2)) ≤ (wrap64 (a1 + (wrap64 (2 + (wrap64 (bt a0 (wrap64 (a1 + 1)))))))) then (if (wrap64 (a1 + (wrap64 (2 + (wrap64 (bt a0 (wrap64 (a1 + 1)))))))) ≤ (a0.size : Int) then ((spec_ValueOk.f (wrap64 (bt a0 a1)) 0 (a0.extract ((wrap64 (a1 + 2)) : Int).toNat ((wrap64 (a1 + (wrap64 (2 + (wrap64 (bt a0 (wrap64 (a1 + 1)))))))) : Int).toNat)).bind fun t150 => (if t150 = true then (some ((wrap64 (bt a0 a1)), 0, a0.extract ((wrap64 (a1 + 2)) : Int).toNat ((wrap64 (a1 + (wrap64 (2 + (wrap64 (bt a0 (wrap64 (a1 + 1)))))))) : Int).toNat, wrap64 (a1 + (wrap64 (2 + (wrap64 (bt a0 (wrap64 (a1 + 1))))))))) else (some (0, 0, (⟨#[]⟩ : ByteArray), (-1))))) else (none)) else (none)) else (none)) else (none)) else (none)) = some (r1, r2, r3, r4) := by rw [if_pos rfl] at H; exact H
             clear H
             have H := H1
             clear H1
             obtain ⟨ji71, hji71⟩ : ∃ j_ : Int, (wrap64 (a1 + 1)) = j_ := ⟨_, rfl⟩
             replace H : (if 0 ≤ (ji71) then (if (ji71) < (a0.size : Int) then (if 0 ≤ (wrap64 (a1 + 2)) then (if (wrap64 (a1 + 2)) ≤ (wrap64 (a1 + (wrap64 (2 + (wrap64 (bt a0 (ji71))))))) then (if (wrap64 (a1 + (wrap64 (2 + (wrap64 (bt a0 (ji71))))))) ≤ (a0.size : Int) then ((spec_ValueOk.f (wrap64 (bt a0 a1)) 0 (a0.extract ((wrap64 (a1 + 2)) : Int).toNat ((wrap64 (a1 + (wrap64 (2 + (wrap64 (bt a0 (ji71))))))) : Int).toNat)).bind fun t150 => (if t150 = true then (some ((wrap64 (bt a0 a1)), 0, a0.extract ((wrap64 (a1 + 2)) : Int).toNat ((wrap64 (a1 + (wrap64 (2 + (wrap64 (bt a0 (ji71))))))) : Int).toNat, wrap64 (a1 + (wrap64 (2 + (wrap64 (bt a0 (ji71)))))))) else (some (0, 0, (⟨#[]⟩ : ByteArray), (-1))))) else (none)) else (none)) else (none)) else (none)) else (none)) = some (r1, r2, r3, r4) := by first | (rw [hji71] at H; exact H) | (simp only [hji71] at H ⊢; exact H)
             have hji71w : (IntKind.i64.wrap (a1 + 1)) = ji71 := (i64_w _).trans hji71
             by_cases c72 : 0 ≤ (ji71)
             ·rw [if_pos c72] at H
              have c72b0 : decide (0 ≤ (ji71)) = true := decide_eq_true c72
              clear c72
              by_cases c73 : (ji71) < (a0.size : Int)
              ·rw [if_pos c73] at H
               have c73b0 : decide ((ji71) < (a0.size : Int)) = true := decide_eq_true c73
               clear c73
               obtain ⟨ji75, hji75⟩ : ∃ j_ : Int, (wrap64 (a1 + 2)) = j_ := ⟨_, rfl⟩
               replace H : (if 0 ≤ (ji75) then (if (ji75) ≤ (wrap64 (a1 + (wrap64 (2 + (wrap64 (bt a0 (ji71))))))) then (if (wrap64 (a1 + (wrap64 (2 + (wrap64 (bt a0 (ji71))))))) ≤ (a0.size : Int) then ((spec_ValueOk.f (wrap64 (bt a0 a1)) 0 (a0.extract ((ji75) : Int).toNat ((wrap64 (a1 + (wrap64 (2 + (wrap64 (bt a0 (ji71))))))) : Int).toNat)).bind fun t150 => (if t150 = true then (some ((wrap64 (bt a0 a1)), 0, a0.extract ((ji75) : Int).toNat ((wrap64 (a1 + (wrap64 (2 + (wrap64 (bt a0 (ji71))))))) : Int).toNat, wrap64 (a1 + (wrap64 (2 + (wrap64 (bt a0 (ji71)))))))) else (some (0, 0, (⟨#[]⟩ : ByteArray), (-1))))) else (none)) else (none)) else (none)) = some (r1, r2, r3, r4) := by first | (rw [hji75] at H; exact H) | (simp only [hji75] at H ⊢; exact H)
               have hji75w : (IntKind.i64.wrap (a1 + 2)) = ji75 := (i64_w _).trans hji75
               by_cases c76 : 0 ≤ (ji75)
               ·rw [if_pos c76] at H
                have c76b0 := eq_true c76
                have c76b1 : decide (0 ≤ (ji75)) = true := decide_eq_true c76
                clear c76
                by_cases c77 : (ji75) ≤ (wrap64 (a1 + (wrap64 (2 + (wrap64 (bt a0 (ji71)))))))
                ·rw [if_pos c77] at H
                 have c77b0 := eq_true c77
                 have c77b1 : decide ((ji75) ≤ (wrap64 (a1 + (wrap64 (2 + (wrap64 (bt a0 (ji71)))))))) = true := decide_eq_true c77
                 by_cases c78 : (wrap64 (a1 + (wrap64 (2 + (wrap64 (bt a0 (ji71))))))) ≤ (a0.size : Int)
                 ·rw [if_pos c78] at H
                  have c78b0 := eq_true c78
                  have c78b1 : decide ((wrap64 (a1 + (wrap64 (2 + (wrap64 (bt a0 (ji71))))))) ≤ (a0.size : Int)) = true := decide_eq_true c78
                  replace H := Option.bind_eq_some_iff.mp H
                  obtain ⟨t150, A790, H⟩ := H
                  replace H : (if t150 = true then (some ((wrap64 (bt a0 a1)), 0, a0.extract ((ji75) : Int).toNat ((wrap64 (a1 + (wrap64 (2 + (wrap64 (bt a0 (ji71))))))) : Int).toNat, wrap64 (a1 + (wrap64 (2 + (wrap64 (bt a0 (ji71)))))))) else (some (0, 0, (⟨#[]⟩ : ByteArray), (-1)))) = some (r1, r2, r3, r4) := H
                  have A79 := Aside0.mk A790
                  clear A790
                  by_cases c80 : t150 = true
                  ·subst c80
                   have H1 : (some ((wrap64 (bt a0 a1)), 0, a0.extract ((ji75) : Int).toNat ((wrap64 (a1 + (wrap64 (2 + (wrap64 (bt a0 (ji71))))))) : Int).toNat, wrap64 (a1 + (wrap64 (2 + (wrap64 (bt a0 (ji71)))))))) = some (r1, r2, r3, r4) := by rw [if_pos rfl] at H; exact H
                   clear H
                   have H := H1
                   clear H1
                   simp only [Option.some.injEq, Prod.mk.injEq] at H
                   obtain ⟨rfl, rfl, rfl, rfl⟩ := H
                   have p74 : 0 ≤ ((ji71) : Int) := of_decide_eq_true (by first | (with_reducible assumption) | assumption)
                   have q74 : (ji71) < (a0.size : Int) := of_decide_eq_true (by first | (with_reducible assumption) | assumption)
                   have hx74 := bt_at a0 (ji71)
                   replace p74 := eq_true p74
                   replace q74 := eq_true q74
                   have hnb81 := NB147_145.out
                   have hnc81 := NB145_147.out
                   have hcz82_0 : wc.cell? ⟨gb147, 0, none⟩ = some (.int .i64 (wrap64 (bt a0 a1))) := bc_ BK147 0
                   have hcz82_1 := bc_ (v := (.int .i64 0)) BK147 1
                   have hcz82_2 := bc_ (v := (.string (⟨#[]⟩ : ByteArray))) BK147 2
                   have hfz82_0 := blk_frozen BK147.out 0
                   have hfz82_1 := blk_frozen BK147.out 1
                   have hfz82_2 := blk_frozen BK147.out 2
                   go_wp2_with (first | ((with_reducible refine gate_callee (f := 35) rfl ?_); refine goesL_ (some 110) rfl rfl Try.func35 (by kernel_rfl) rfl #[.agg #[.int .i64 (wrap64 (bt a0 a1)), .int .i64 0, .string (a0.extract ((ji75) : Int).toNat ((wrap64 (a1 + (wrap64 (2 + (wrap64 (bt a0 (ji71))))))) : Int).toNat)]] rfl (by (try simp only [List.map_toArray, List.map_cons, List.map_nil]); first | done | (simp only [hji71, hji75]; rfl) | rfl | (simp only [List.length_drop, List.length_take]; rfl)) ?_; (with_reducible refine (spec_ValueOk.calls (wrap64 (bt a0 a1)) 0 (a0.extract ((ji75) : Int).toNat ((wrap64 (a1 + (wrap64 (2 + (wrap64 (bt a0 (ji71))))))) : Int).toNat) true _ A79.out).mono ?_); rintro e w83 ⟨rfl, hb⟩; refine ⟨_, rfl, ?_⟩; replace BK145 := Aside0.mk (blk_below (g := gb145) (o := .cells #[.int .i64 0, .int .i64 0, .string (⟨#[]⟩ : ByteArray)] 42 (0, 0)) (bf1_ NB145_147 (bkx_ BK145.out)) hb); replace BK147 := Aside0.mk (blk_below (g := gb147) (o := .cells #[.int .i64 (wrap64 (bt a0 a1)), .int .i64 0, .string (a0.extract ((ji75) : Int).toNat ((wrap64 (a1 + (wrap64 (2 + (wrap64 (bt a0 (ji71))))))) : Int).toNat)] 42 (0, 0)) (by (with_reducible repeat (first | refine blk_drewN ?_ _ | refine blk_drew ?_ | refine blk_alloc ?_ _)); refine blk_put (cs := #[.int .i64 (wrap64 (bt a0 a1)), .int .i64 0, .string (⟨#[]⟩ : ByteArray)]) ?_ 2 _ rfl; (with_reducible repeat (first | refine blk_drewN ?_ _ | refine blk_drew ?_ | refine blk_alloc ?_ _)); exact BK147.out) hb); replace HB := bs_ hb; (try clear hb); (try clear hb2); (try clear hk); (try clear hi); have hcz84_0 : w83.cell? ⟨gb147, 0, none⟩ = some (.int .i64 (wrap64 (bt a0 a1))) := bc_ BK147 0; have hcz84_1 := bc_ (v := (.int .i64 0)) BK147 1; have hcz84_2 : w83.cell? ⟨gb147, 2, none⟩ = some (.string (a0.extract ((ji75) : Int).toNat ((wrap64 (a1 + (wrap64 (2 + (wrap64 (bt a0 (ji71))))))) : Int).toNat)) := bc_ BK147 2; have hfz84_0 := blk_frozen BK147.out 0; have hfz84_1 := blk_frozen BK147.out 1; have hfz84_2 := blk_frozen BK147.out 2; obtain ⟨hcz85_0, hcz85_1, hcz85_2, hfz85_0, hfz85_1, hfz85_2⟩ := b3_ BK145))
                   refine bodyPost_ret (results_ct rfl _ _ gb145 42 #[.int .i64 (wrap64 (bt a0 a1)), .int .i64 0, .string (a0.extract ((ji75) : Int).toNat ((wrap64 (a1 + (wrap64 (2 + (wrap64 (bt a0 (ji71))))))) : Int).toNat)] (0, 0) _ rfl (bp3_ (bkx_ BK145.out)) Try.underlying42 rfl (by kernel_rfl)) rfl ?_
                   exact ⟨by first | rfl | (simp [errW_none, errW_some] <;> rfl) | (simp only [← hji71, ← hji75]; first | rfl | (simp [errW_none, errW_some] <;> rfl)) | (simp [*, errW_none, errW_some] <;> rfl), by repeat (first | (with_reducible first | exact HB.out | apply below_alloc | apply pw_below_drewN | apply below_drew1 | refine below_set ?_ GE145.out | refine below_set ?_ GE147.out) | exact HB.out)⟩
                  ·replace c80 := Bool.eq_false_iff.mpr c80
                   subst c80
                   have H1 : (some (0, 0, (⟨#[]⟩ : ByteArray), (-1))) = some (r1, r2, r3, r4) := by rw [if_neg (show ¬ (false = true) by decide)] at H; exact H
                   clear H
                   have H := H1
                   clear H1
                   simp only [Option.some.injEq, Prod.mk.injEq] at H
                   obtain ⟨rfl, rfl, rfl, rfl⟩ := H
                   have p74 : 0 ≤ ((ji71) : Int) := of_decide_eq_true (by first | (with_reducible assumption) | assumption)
                   have q74 : (ji71) < (a0.size : Int) := of_decide_eq_true (by first | (with_reducible assumption) | assumption)
                   have hx74 := bt_at a0 (ji71)
                   replace p74 := eq_true p74
                   replace q74 := eq_true q74
                   have hnb86 := NB147_145.out
                   have hnc86 := NB145_147.out
                   have hcz87_0 : wc.cell? ⟨gb147, 0, none⟩ = some (.int .i64 (wrap64 (bt a0 a1))) := bc_ BK147 0
                   have hcz87_1 := bc_ (v := (.int .i64 0)) BK147 1
                   have hcz87_2 := bc_ (v := (.string (⟨#[]⟩ : ByteArray))) BK147 2
                   have hfz87_0 := blk_frozen BK147.out 0
                   have hfz87_1 := blk_frozen BK147.out 1
                   have hfz87_2 := blk_frozen BK147.out 2
                   go_wp2_with (first | ((with_reducible refine gate_callee (f := 35) rfl ?_); refine goesL_ (some 110) rfl rfl Try.func35 (by kernel_rfl) rfl #[.agg #[.int .i64 (wrap64 (bt a0 a1)), .int .i64 0, .string (a0.extract ((ji75) : Int).toNat ((wrap64 (a1 + (wrap64 (2 + (wrap64 (bt a0 (ji71))))))) : Int).toNat)]] rfl (by (try simp only [List.map_toArray, List.map_cons, List.map_nil]); first | done | (simp only [hji71, hji75]; rfl) | rfl | (simp only [List.length_drop, List.length_take]; rfl)) ?_; (with_reducible refine (spec_ValueOk.calls (wrap64 (bt a0 a1)) 0 (a0.extract ((ji75) : Int).toNat ((wrap64 (a1 + (wrap64 (2 + (wrap64 (bt a0 (ji71))))))) : Int).toNat) false _ A79.out).mono ?_); rintro e w88 ⟨rfl, hb⟩; refine ⟨_, rfl, ?_⟩; replace BK145 := Aside0.mk (blk_below (g := gb145) (o := .cells #[.int .i64 0, .int .i64 0, .string (⟨#[]⟩ : ByteArray)] 42 (0, 0)) (bf1_ NB145_147 (bkx_ BK145.out)) hb); replace BK147 := Aside0.mk (blk_below (g := gb147) (o := .cells #[.int .i64 (wrap64 (bt a0 a1)), .int .i64 0, .string (a0.extract ((ji75) : Int).toNat ((wrap64 (a1 + (wrap64 (2 + (wrap64 (bt a0 (ji71))))))) : Int).toNat)] 42 (0, 0)) (by (with_reducible repeat (first | refine blk_drewN ?_ _ | refine blk_drew ?_ | refine blk_alloc ?_ _)); refine blk_put (cs := #[.int .i64 (wrap64 (bt a0 a1)), .int .i64 0, .string (⟨#[]⟩ : ByteArray)]) ?_ 2 _ rfl; (with_reducible repeat (first | refine blk_drewN ?_ _ | refine blk_drew ?_ | refine blk_alloc ?_ _)); exact BK147.out) hb); replace HB := bs_ hb; (try clear hb); (try clear hb2); (try clear hk); (try clear hi); obtain ⟨hcz89_0, hcz89_1, hcz89_2, hfz89_0, hfz89_1, hfz89_2⟩ := b3_ BK145))
                   refine bodyPost_ret (results_ct rfl _ _ gb145 42 #[.int .i64 0, .int .i64 0, .string (⟨#[]⟩ : ByteArray)] (0, 0) _ rfl (bp3_ (bkx_ BK145.out)) Try.underlying42 rfl (by kernel_rfl)) rfl ?_
                   exact ⟨by first | rfl | (simp [errW_none, errW_some] <;> rfl) | (simp only [← hji71, ← hji75]; first | rfl | (simp [errW_none, errW_some] <;> rfl)) | (simp [*, errW_none, errW_some] <;> rfl), by repeat (first | (with_reducible first | exact HB.out | apply below_alloc | apply pw_below_drewN | apply below_drew1 | refine below_set ?_ GE145.out | refine below_set ?_ GE147.out) | exact HB.out)⟩
                 ·rw [if_neg c78] at H
                  exact absurd H (by simp)
                ·rw [if_neg c77] at H
                 exact absurd H (by simp)
               ·rw [if_neg c76] at H
                exact absurd H (by simp)
              ·rw [if_neg c73] at H
               exact absurd H (by simp)
             ·rw [if_neg c72] at H
              exact absurd H (by simp)
            ·replace c70 := Bool.eq_false_iff.mpr c70
             subst c70
             have H1 : (if (wrap64 (bt a0 a1)) = 0 then ((spec_ValueOk.f (wrap64 (bt a0 a1)) 0 (⟨#[]⟩ : ByteArray)).bind fun t151 => (if t151 = true then (some ((wrap64 (bt a0 a1)), 0, (⟨#[]⟩ : ByteArray), wrap64 (a1 + 1))) else (some (0, 0, (⟨#[]⟩ : ByteArray), (-1))))) else (some (0, 0, (⟨#[]⟩ : ByteArray), (-1)))) = some (r1, r2, r3, r4) := by rw [if_neg (show ¬ (false = true) by decide)] at H; exact H
             clear H
             have H := H1
             clear H1
             by_cases c90 : (wrap64 (bt a0 a1)) = 0
             ·rw [if_pos c90] at H
              have c90b0 : ((wrap64 (bt a0 a1)) == 0) = true := beq_iff_eq.mpr c90
              have c90b1 : ((wrap64 (bt a0 a1)) != 0) = false := bne_eq_false_iff_eq.mpr c90
              clear c90
              replace H := Option.bind_eq_some_iff.mp H
              obtain ⟨t151, A910, H⟩ := H
              replace H : (if t151 = true then (some ((wrap64 (bt a0 a1)), 0, (⟨#[]⟩ : ByteArray), wrap64 (a1 + 1))) else (some (0, 0, (⟨#[]⟩ : ByteArray), (-1)))) = some (r1, r2, r3, r4) := H
              have A91 := Aside0.mk A910
              clear A910
              by_cases c92 : t151 = true
              ·subst c92
               have H1 : (some ((wrap64 (bt a0 a1)), 0, (⟨#[]⟩ : ByteArray), wrap64 (a1 + 1))) = some (r1, r2, r3, r4) := by rw [if_pos rfl] at H; exact H
               clear H
               have H := H1
               clear H1
               simp only [Option.some.injEq, Prod.mk.injEq] at H
               obtain ⟨rfl, rfl, rfl, rfl⟩ := H
               have hnb93 := NB147_145.out
               have hnc93 := NB145_147.out
               have hcz94_0 : wc.cell? ⟨gb147, 0, none⟩ = some (.int .i64 (wrap64 (bt a0 a1))) := bc_ BK147 0
               have hcz94_1 := bc_ (v := (.int .i64 0)) BK147 1
               have hcz94_2 := bc_ (v := (.string (⟨#[]⟩ : ByteArray))) BK147 2
               have hfz94_0 := blk_frozen BK147.out 0
               have hfz94_1 := blk_frozen BK147.out 1
               have hfz94_2 := blk_frozen BK147.out 2
               go_wp2_with (first | ((with_reducible refine gate_callee (f := 35) rfl ?_); refine goesL_ (some 110) rfl rfl Try.func35 (by kernel_rfl) rfl #[.agg #[.int .i64 (wrap64 (bt a0 a1)), .int .i64 0, .string (⟨#[]⟩ : ByteArray)]] rfl (by (try simp only [List.map_toArray, List.map_cons, List.map_nil]); first | done | rfl | (simp only [List.length_drop, List.length_take]; rfl)) ?_; (with_reducible refine (spec_ValueOk.calls (wrap64 (bt a0 a1)) 0 (⟨#[]⟩ : ByteArray) true _ A91.out).mono ?_); rintro e w95 ⟨rfl, hb⟩; refine ⟨_, rfl, ?_⟩; replace BK145 := bkb_ BK145 hb; replace BK147 := bkb_ BK147 hb; replace HB := bs_ hb; (try clear hb); (try clear hb2); (try clear hk); (try clear hi); have hcz96_0 : w95.cell? ⟨gb147, 0, none⟩ = some (.int .i64 (wrap64 (bt a0 a1))) := bc_ BK147 0; have hcz96_1 := bc_ (v := (.int .i64 0)) BK147 1; have hcz96_2 := bc_ (v := (.string (⟨#[]⟩ : ByteArray))) BK147 2; have hfz96_0 := blk_frozen BK147.out 0; have hfz96_1 := blk_frozen BK147.out 1; have hfz96_2 := blk_frozen BK147.out 2; obtain ⟨hcz97_0, hcz97_1, hcz97_2, hfz97_0, hfz97_1, hfz97_2⟩ := b3_ BK145))
               refine bodyPost_ret (results_ct rfl _ _ gb145 42 #[.int .i64 (wrap64 (bt a0 a1)), .int .i64 0, .string (⟨#[]⟩ : ByteArray)] (0, 0) _ rfl (bp3_ (bkx_ BK145.out)) Try.underlying42 rfl (by kernel_rfl)) rfl ?_
               exact ⟨er_, bb_⟩
              ·replace c92 := Bool.eq_false_iff.mpr c92
               subst c92
               have H1 : (some (0, 0, (⟨#[]⟩ : ByteArray), (-1))) = some (r1, r2, r3, r4) := by rw [if_neg (show ¬ (false = true) by decide)] at H; exact H
               clear H
               have H := H1
               clear H1
               simp only [Option.some.injEq, Prod.mk.injEq] at H
               obtain ⟨rfl, rfl, rfl, rfl⟩ := H
               have hnb98 := NB147_145.out
               have hnc98 := NB145_147.out
               have hcz99_0 : wc.cell? ⟨gb147, 0, none⟩ = some (.int .i64 (wrap64 (bt a0 a1))) := bc_ BK147 0
               have hcz99_1 := bc_ (v := (.int .i64 0)) BK147 1
               have hcz99_2 := bc_ (v := (.string (⟨#[]⟩ : ByteArray))) BK147 2
               have hfz99_0 := blk_frozen BK147.out 0
               have hfz99_1 := blk_frozen BK147.out 1
               have hfz99_2 := blk_frozen BK147.out 2
               go_wp2_with (first | ((with_reducible refine gate_callee (f := 35) rfl ?_); refine goesL_ (some 110) rfl rfl Try.func35 (by kernel_rfl) rfl #[.agg #[.int .i64 (wrap64 (bt a0 a1)), .int .i64 0, .string (⟨#[]⟩ : ByteArray)]] rfl (by (try simp only [List.map_toArray, List.map_cons, List.map_nil]); first | done | rfl | (simp only [List.length_drop, List.length_take]; rfl)) ?_; (with_reducible refine (spec_ValueOk.calls (wrap64 (bt a0 a1)) 0 (⟨#[]⟩ : ByteArray) false _ A91.out).mono ?_); rintro e w100 ⟨rfl, hb⟩; refine ⟨_, rfl, ?_⟩; replace BK145 := bkb_ BK145 hb; replace BK147 := bkb_ BK147 hb; replace HB := bs_ hb; (try clear hb); (try clear hb2); (try clear hk); (try clear hi); obtain ⟨hcz101_0, hcz101_1, hcz101_2, hfz101_0, hfz101_1, hfz101_2⟩ := b3_ BK145))
               refine bodyPost_ret (results_ct rfl _ _ gb145 42 #[.int .i64 0, .int .i64 0, .string (⟨#[]⟩ : ByteArray)] (0, 0) _ rfl (bp3_ (bkx_ BK145.out)) Try.underlying42 rfl (by kernel_rfl)) rfl ?_
               exact ⟨er_, bb_⟩
             ·rw [if_neg c90] at H
              have c90b0 : ((wrap64 (bt a0 a1)) == 0) = false := beq_eq_false_iff_ne.mpr c90
              have c90b1 : ((wrap64 (bt a0 a1)) != 0) = true := bne_iff_ne.mpr c90
              simp only [Option.some.injEq, Prod.mk.injEq] at H
              obtain ⟨rfl, rfl, rfl, rfl⟩ := H
              have hnb102 := NB147_145.out
              have hnc102 := NB145_147.out
              have hcz103_0 : wc.cell? ⟨gb147, 0, none⟩ = some (.int .i64 (wrap64 (bt a0 a1))) := bc_ BK147 0
              have hcz103_1 := bc_ (v := (.int .i64 0)) BK147 1
              have hcz103_2 := bc_ (v := (.string (⟨#[]⟩ : ByteArray))) BK147 2
              have hfz103_0 := blk_frozen BK147.out 0
              have hfz103_1 := blk_frozen BK147.out 1
              have hfz103_2 := blk_frozen BK147.out 2
              obtain ⟨hcz104_0, hcz104_1, hcz104_2, hfz104_0, hfz104_1, hfz104_2⟩ := b3_ BK145
              go_wp2
              refine bodyPost_ret (results_ct rfl _ _ gb145 42 #[.int .i64 0, .int .i64 0, .string (⟨#[]⟩ : ByteArray)] (0, 0) _ rfl (bp3_ (bkx_ BK145.out)) Try.underlying42 rfl (by kernel_rfl)) rfl ?_
              exact ⟨er_, bb_⟩
   ·rw [if_neg c6] at H
    exact absurd H (by simp)
  ·rw [if_neg c5] at H
   exact absurd H (by simp)
 ·replace c4 := Bool.eq_false_iff.mpr c4
  subst c4
  have H1 : (some (0, 0, (⟨#[]⟩ : ByteArray), (-1))) = some (r1, r2, r3, r4) := by rw [if_neg (show ¬ (false = true) by decide)] at H; exact H
  clear H
  have H := H1
  clear H1
  simp only [Option.some.injEq, Prod.mk.injEq] at H
  obtain ⟨rfl, rfl, rfl, rfl⟩ := H
  go_enter Try.func26, Try.ntmps26
  go_wp2_with (first | ((with_reducible refine gate_dst (N := 4) rfl ?_); (try (refine gate_guard (by rfl) ?_; dsimp only)); refine bx_ 4 #[.int .i64 0, .int .i64 0, .string (⟨#[]⟩ : ByteArray)] 42 ?_; intro gb145 hg w105 hbox hb; have BK145 := Aside0.mk (hbox); have GW145 := gw_ hg; have GE145 := gw_ hg; replace HB := bs_ hb; clear hb hbox hg) | ((with_reducible refine gate_callee (f := 33) rfl ?_); refine gsL_ (some 14) Try.func33 #[.int .i64 a1, .int .i64 0, .int .i64 (wrap64 ((a0.size : Int) - 1))] ?_; (with_reducible refine (spec_l01In.calls a1 0 (wrap64 ((a0.size : Int) - 1)) false _ A3.out).mono ?_); rintro e w' ⟨rfl, ⟨nd, rfl⟩⟩; refine ⟨_, rfl, ?_⟩; (try (rw [drewN_self w105]; generalize hq_ : World.drewN w105 _ = w105; have n0_ : Aside0 (w105.heap[gb145]? = some (.cells #[.int .i64 0, .int .i64 0, .string (⟨#[]⟩ : ByteArray)] 42 (0, 0))) := ⟨by rw [← hq_]; exact (bkx_ BK145.out)⟩; have n1_ : Aside0 (Below w.heap.size w w105) := ⟨by rw [← hq_]; exact bb_⟩; clear BK145 HB hq_; have BK145 := n0_; have HB := n1_; clear n0_ n1_)); obtain ⟨hcz106_0, hcz106_1, hcz106_2, hfz106_0, hfz106_1, hfz106_2⟩ := b3_ BK145))
  refine bodyPost_ret (results_ct rfl _ _ gb145 42 #[.int .i64 0, .int .i64 0, .string (⟨#[]⟩ : ByteArray)] (0, 0) _ rfl (bp3_ (bkx_ BK145.out)) Try.underlying42 rfl (by kernel_rfl)) rfl ?_
  exact ⟨er_, bb_⟩

end Go.Proofs.Ytnibegacjmnhoaa.PFnExactGetBag
