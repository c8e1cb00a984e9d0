-- WRITTEN BY xprint.py, a program of this session over the kit's printer: by nobody's hand
-- PRESSED4 -- PRESSED TWICE3 -- PRESSED TWICE
import Derived.Test.YtoajedijckkjjaaGreatDoorPress
import Derived.Test.YtoajedijckkjjaaGreatDoorPress3
import Derived.Test.YtoajedijckkjjaaGreatDoorPFnBagBytesx0
import Derived.Test.YtoajedijckkjjaaGreatDoorPFnBagBytesx2
import Derived.Test.YtoajedijckkjjaaGreatDoorPFnBagBytesx3
namespace Go.Proofs.YtoajedijckkjjaaGreatDoor.PFnBagBytes
open Go.RowKit Go.Proofs.YtoajedijckkjjaaGreatDoorW.PrintWords Go.Proofs.YtoajedijckkjjaaGreatDoorW.PrintLast Go.Proofs.YtoajedijckkjjaaGreatDoorW.PrintMore
attribute [local go_sem] max2_int min2_int max_two min_two max_three min_three max_four min_four
set_option linter.unusedVariables false
set_option linter.unusedSimpArgs false
/-! ### spec_PutValue: function 28 -/
def spec_PutValue.l0 : Nat → List Int → Int → Int → Int → Int → Int → ByteArray → Option (ByteArray)
 | 0, _, _, _, _, _, _, _ => none
 | k + 1, x3, x4, x5, x6, x317000, x317001, x317002 => if x6 < 8 then (if x5 = 0 then (none) else (if x3.length < 140737488355328 then (spec_PutValue.l0 k (x3 ++ [(Int.tmod (IntKind.u64.wrap (Int.tdiv x4 x5)) 256) % 256]) x4 (IntKind.u64.wrap (Int.tdiv x5 256)) (wrap64 (x6 + 1)) x317000 x317001 x317002) else (none))) else (if (strOfNums x3).size + x317002.size ≤ 9223372036854775807 then (some ((strOfNums x3) ++ x317002)) else (none))
def spec_PutValue.f (k : Nat) (a0_0 : Int) (a0_1 : Int) (a0_2 : ByteArray) : Option (ByteArray) := (spec_ValueOk.f a0_0 a0_1 a0_2).bind fun t317 => (if t317 = true then ((some (([(a0_0) % 256] : List Int) : List Int)).bind fun y318 => (if a0_0 = 1 then (spec_PutValue.l0 k y318 (IntKind.u64.wrap (a0_1)) 72057594037927936 0 a0_0 a0_1 a0_2) else (if a0_0 = 2 then (if y318.length < 140737488355328 then ((some (y318 ++ [(a0_1) % 256] : List Int)).bind fun y324 => (if (strOfNums y324).size + a0_2.size ≤ 9223372036854775807 then (some ((strOfNums y324) ++ a0_2)) else (none))) else (none)) else (if a0_0 = 3 then (if y318.length < 140737488355328 then ((some (y318 ++ [((a0_2.size : Int)) % 256] : List Int)).bind fun y327 => (if (strOfNums y327).size + a0_2.size ≤ 9223372036854775807 then (some ((strOfNums y327) ++ a0_2)) else (none))) else (none)) else (if (strOfNums y318).size + a0_2.size ≤ 9223372036854775807 then (some ((strOfNums y318) ++ a0_2)) else (none)))))) else (some (⟨#[]⟩ : ByteArray)))
set_option maxHeartbeats 8000000 in
set_option maxRecDepth 100000 in
theorem spec_PutValue.calls (k : Nat) (a0_0 : Int) (a0_1 : Int) (a0_2 : ByteArray) (r : ByteArray) (w : World) (h : spec_PutValue.f k a0_0 a0_1 a0_2 = some r) :
  Calls Tryz.prog 28 #[.agg #[.int .i64 a0_0, .int .i64 a0_1, .string a0_2]] w fun e w' => e = .returned (.string r) ∧ Below w.heap.size w w' := by
 have hu50 := Tryz.underlying50
 have HB := am_ (Below.refl w.heap.size w)
 have H : ((spec_ValueOk.f a0_0 a0_1 a0_2).bind fun t317 => (if t317 = true then ((some (([(a0_0) % 256] : List Int) : List Int)).bind fun y318 => (if a0_0 = 1 then (spec_PutValue.l0 k y318 (IntKind.u64.wrap (a0_1)) 72057594037927936 0 a0_0 a0_1 a0_2) else (if a0_0 = 2 then (if y318.length < 140737488355328 then ((some (y318 ++ [(a0_1) % 256] : List Int)).bind fun y324 => (if (strOfNums y324).size + a0_2.size ≤ 9223372036854775807 then (some ((strOfNums y324) ++ a0_2)) else (none))) else (none)) else (if a0_0 = 3 then (if y318.length < 140737488355328 then ((some (y318 ++ [((a0_2.size : Int)) % 256] : List Int)).bind fun y327 => (if (strOfNums y327).size + a0_2.size ≤ 9223372036854775807 then (some ((strOfNums y327) ++ a0_2)) else (none))) else (none)) else (if (strOfNums y318).size + a0_2.size ≤ 9223372036854775807 then (some ((strOfNums y318) ++ a0_2)) else (none)))))) else (some (⟨#[]⟩ : ByteArray)))) = some r := h
 clear h
 replace H := bsi_ H
 obtain ⟨t317, A20, H⟩ := H
 try dsimp only at H
 have A2 := am_ A20
 clear A20
 by_cases c3 : t317 = true
 ·subst c3
  rw [if_pos rfl] at H; obtain ⟨y318, hy318⟩ : ∃ y_ : List Int, y_ = (([(a0_0) % 256] : List Int)) := ⟨_, rfl⟩; (replace H : (if a0_0 = 1 then (spec_PutValue.l0 k y318 (IntKind.u64.wrap (a0_1)) 72057594037927936 0 a0_0 a0_1 a0_2) else (if a0_0 = 2 then (if y318.length < 140737488355328 then ((some (y318 ++ [(a0_1) % 256] : List Int)).bind fun y324 => (if (strOfNums y324).size + a0_2.size ≤ 9223372036854775807 then (some ((strOfNums y324) ++ a0_2)) else (none))) else (none)) else (if a0_0 = 3 then (if y318.length < 140737488355328 then ((some (y318 ++ [((a0_2.size : Int)) % 256] : List Int)).bind fun y327 => (if (strOfNums y327).size + a0_2.size ≤ 9223372036854775807 then (some ((strOfNums y327) ++ a0_2)) else (none))) else (none)) else (if (strOfNums y318).size + a0_2.size ≤ 9223372036854775807 then (some ((strOfNums y318) ++ a0_2)) else (none))))) = some r := by first | (rw [hy318]; with_reducible exact H) | (have H2_ := (Option.bind_some _ _).symm.trans H; rw [hy318]; with_reducible exact H2_) | (have H2_ := (Option.bind_some _ _).symm.trans H; with_reducible exact H2_) | with_reducible exact H | (rw [hy318]; exact H) | exact H); have Ny318 := am_ hy318; clear hy318
  by_cases c4 : a0_0 = 1
  ·rw [if_pos c4] at H
   have c4b0 : (a0_0 == 1) = true := beq_iff_eq.mpr c4; have c4b1 : (a0_0 != 1) = false := bne_eq_false_iff_eq.mpr c4; clear c4; have H' := am_ H; clear H
   go_enter Tryz.func28, Tryz.ntmps28
   go_wp2_with (first | ((with_reducible refine gate_dst (N := 1) rfl ?_); refine bx_ 1 #[.int .i64 a0_0, .int .i64 a0_1, .string a0_2] 50 ?_; intro gb316 hg w5 hbox hb; have BK316 := am_ (hbox); have GW316 := gw_ hg; have GE316 := gw_ hg; replace HB := bs_ hb; clear hb hbox hg; obtain ⟨hcz6_0, hcz6_1, hcz6_2, hfz6_0, hfz6_1, hfz6_2⟩ := b3_ BK316) | ((with_reducible refine gate_callee (f := 50) rfl ?_); refine gsL_ (some 8) Tryz.func50 #[.agg #[.int .i64 a0_0, .int .i64 a0_1, .string a0_2]] ?_; (with_reducible refine (spec_ValueOk.calls a0_0 a0_1 a0_2 true _ A2.out).mono ?_); rintro e w7 ⟨rfl, hb⟩; refine ⟨_, rfl, ?_⟩; replace BK316 := bkb_ BK316 hb; replace HB := bs_ hb; (try clear hb); obtain ⟨hcz8_0, hcz8_1, hcz8_2, hfz8_0, hfz8_1, hfz8_2⟩ := b3_ BK316) | ((with_reducible refine gate_dst (N := 13) rfl ?_); refine Kd.R_lit (Kd.int .u8) _ 5 ?hg (N := 13) ?hd (xs := ([(a0_0) % 256] : List Int)) (inner := [.int .u8 ((a0_0) % 256)]) (ok := fun _ => True) (okp := fun _ => True) ?hr ?hp (fun _ hk => hk) trivial (Below.refl _ _) (Nat.le_refl _) (by simp) ?_; (case hd => rfl); (case hg => rfl); (case hr => first | (go_simp; done) | (go_simp; rfl)); (case hp => exact (Reps.one (show Kd.M (Kd.int .u8) _ _ _ ((a0_0) % 256) [.int .u8 ((a0_0) % 256)] from rfl) (Reps.none _ _))); intro v319 w9 ho10 hb hg_ hnew_; clear hg_ hnew_; (first | rw [← Ny318.out] at ho10 | (simp only [Int.reduceToNat] at ho10; rw [← Ny318.out] at ho10)); have HO320 := am_ (Kd.R_lower ho10 (below_size bb_)); replace BK316 := bkb_ BK316 hb; replace HB := bs_ hb; clear hb ho10; obtain ⟨hcz11_0, hcz11_1, hcz11_2, hfz11_0, hfz11_1, hfz11_2⟩ := b3_ BK316))
   go_loopg [3, 5, 6] k (fun kq v3 v5 v6 w' => ∃ (x3_1 : List Int) (x5_1 : Int) (x6_1 : Int), v5 = .int .u64 x5_1 ∧ v6 = .int .i64 x6_1 ∧ Aside0 (spec_PutValue.l0 kq x3_1 (IntKind.u64.wrap (a0_1)) x5_1 x6_1 a0_0 a0_1 a0_2 = some r) ∧ Aside0 (kq ≤ k) ∧ Aside0 (Kd.R (Kd.int .u8) 5 w' w.heap.size (fun _ => True) v3 x3_1) ∧ Aside0 (w'.heap[gb316]? = some (.cells #[.int .i64 a0_0, .int .i64 a0_1, .string a0_2] 50 (0, 0))) ∧ Aside0 (Below w.heap.size w w'))
   case atStart => exact ⟨(y318), (72057594037927936), (0), rs_, rs_, H', ⟨Nat.le_refl _⟩, ⟨by (with_reducible repeat (first | apply Kd.R_alloc | apply Kd.R_drewN | apply Kd.R_drew)); exact HO320.out⟩, ⟨bkx_ BK316.out⟩, ⟨bb_⟩⟩
   case round =>
    clear H'; (try clear c2); (try clear p2); (try clear c3); (try clear c4); (try clear c4b0); (try clear c4b1); (try clear c5); (try clear hcz11_0 hcz11_1 hcz11_2); (try clear hcz6_0 hcz6_1 hcz6_2); (try clear hcz8_0 hcz8_1 hcz8_2); (try clear hfz11_0 hfz11_1 hfz11_2); (try clear hfz6_0 hfz6_1 hfz6_2); (try clear hfz8_0 hfz8_1 hfz8_2); obtain ⟨x3_1, x5_1, x6_1, rfl, rfl, HA, HK1, HO_3, BK316, HB⟩ := hrel
    cases gk with
    | zero => exact absurd HA.out (by simp [spec_PutValue.l0])
    | succ k1 =>
     have H := HA.out; clear HA; simp only [spec_PutValue.l0] at H
     by_cases c12 : x6_1 < 8
     ·rw [if_pos c12] at H
      have c12b0 := decide_eq_true c12; clear c12
      by_cases c13 : x5_1 = 0
      ·rw [if_pos c13] at H
       exact nn_ H
      ·rw [if_neg c13] at H
       have c13b0 : (x5_1 == 0) = false := beq_eq_false_iff_ne.mpr c13; have c13b1 : (x5_1 != 0) = true := bne_iff_ne.mpr c13
       by_cases c14 : x3_1.length < 140737488355328
       ·rw [if_pos c14] at H
        have LMc14 := am_ c14; clear c14; obtain ⟨y321, hy321⟩ : ∃ y_ : List Int, y_ = (x3_1 ++ [(Int.tmod (IntKind.u64.wrap (Int.tdiv (IntKind.u64.wrap (a0_1)) x5_1)) 256) % 256]) := ⟨_, rfl⟩; (replace H : (spec_PutValue.l0 k1 y321 (IntKind.u64.wrap (a0_1)) (IntKind.u64.wrap (Int.tdiv x5_1 256)) (wrap64 (x6_1 + 1)) a0_0 a0_1 a0_2) = some r := by first | (rw [hy321]; with_reducible exact H) | (have H2_ := (Option.bind_some _ _).symm.trans H; rw [hy321]; with_reducible exact H2_) | (have H2_ := (Option.bind_some _ _).symm.trans H; with_reducible exact H2_) | with_reducible exact H | (rw [hy321]; exact H) | exact H); have Ny321 := am_ hy321; clear hy321; have H' := am_ H; clear H
        go_wp2_with (first | ((with_reducible refine gate_builtin (b := .append) (xs := #[.tmp 25, .tmp 31]) rfl ?_); at_builtin; refine Kd.R_append (Kd.int .u8) (w0 := w) w.heap.size rfl (.tmp 25) (.tmp 31) 22 5 (.int .u8 0) 1 rfl Tryz.underlying22 info5 rfl (by decide) (by omega) u3 x3_1 ((Int.tmod (IntKind.u64.wrap (Int.tdiv (IntKind.u64.wrap (a0_1)) x5_1)) 256) % 256) [.int .u8 ((Int.tmod (IntKind.u64.wrap (Int.tdiv (IntKind.u64.wrap (a0_1)) x5_1)) 256) % 256)] (fun _ => True) (fun _ => False) rfl rfl ?aP (fun _ hk => hk.elim) ?aF ?aO ?aB ?aS ?aL ?_; (case aP => exact rfl); (case aB => exact bb_); (case aF => exact (fun _ _ => trivial)); (case aO => exact (rk_ HO_3.out)); (case aS => exact (below_size bb_)); (case aL => have := LMc14.out; omega); intro v322 w15 ho hb hg hat; rw [← Ny321.out] at ho; have HO323 := am_ (ho); replace BK316 := am_ (blk_grown (g := gb316) (o := .cells #[.int .i64 a0_0, .int .i64 a0_1, .string a0_2] 50 (0, 0)) (bkx_ BK316.out) hg (Kd.R_ne HO_3.out BK316.out (by decide))); replace HB := am_ (hb); clear HO_3; clear ho hb hg hat))
        go_roundg k1
        case measure => have := HK1.out; omega
        case rel => exact ⟨(y321), (IntKind.u64.wrap (Int.tdiv x5_1 256)), (wrap64 (x6_1 + 1)), rs_, rs_, H', ⟨by have := HK1.out; omega⟩, ⟨by (with_reducible repeat (first | apply Kd.R_alloc | apply Kd.R_drewN | apply Kd.R_drew)); exact HO323.out⟩, ⟨bkx_ BK316.out⟩, ⟨bb_⟩⟩
       ·rw [if_neg c14] at H
        exact nn_ H
     ·rw [if_neg c12] at H
      have c12b0 := decide_eq_false c12; clear c12
      by_cases c16 : (strOfNums x3_1).size + a0_2.size ≤ 9223372036854775807
      ·rw [if_pos c16] at H
       have c16b0 := eq_true c16; have c16b1 := decide_eq_true c16
       try have c16b2 : (9223372036854775807 < (strOfNums x3_1).size + a0_2.size) = False := eq_false (Nat.not_lt.2 c16)
       obtain rfl := Option.some.inj H; have hcv17 := own_string (P := Tryz.prog) Tryz.underlying22 Tryz.underlying5 Tryz.underlying9 (Kd.own_of_R HO_3.out); obtain ⟨hcz18_0, hcz18_1, hcz18_2, hfz18_0, hfz18_1, hfz18_2⟩ := b3_ BK316
       go_wp2
       go_ret
       exact ⟨er_, bb_⟩
      ·rw [if_neg c16] at H
       exact nn_ H
  ·rw [if_neg c4] at H
   have c4b0 : (a0_0 == 1) = false := beq_eq_false_iff_ne.mpr c4; have c4b1 : (a0_0 != 1) = true := bne_iff_ne.mpr c4
   by_cases c19 : a0_0 = 2
   ·rw [if_pos c19] at H
    have c19b0 : (a0_0 == 2) = true := beq_iff_eq.mpr c19; have c19b1 : (a0_0 != 2) = false := bne_eq_false_iff_eq.mpr c19; clear c19
    by_cases c20 : y318.length < 140737488355328
    ·rw [if_pos c20] at H
     have LMc20 := am_ c20; clear c20; obtain ⟨y324, hy324⟩ : ∃ y_ : List Int, y_ = (y318 ++ [(a0_1) % 256]) := ⟨_, rfl⟩; (replace H : (if (strOfNums y324).size + a0_2.size ≤ 9223372036854775807 then (some ((strOfNums y324) ++ a0_2)) else (none)) = some r := by first | (rw [hy324]; with_reducible exact H) | (have H2_ := (Option.bind_some _ _).symm.trans H; rw [hy324]; with_reducible exact H2_) | (have H2_ := (Option.bind_some _ _).symm.trans H; with_reducible exact H2_) | with_reducible exact H | (rw [hy324]; exact H) | exact H); have Ny324 := am_ hy324; clear hy324
     by_cases c21 : (strOfNums y324).size + a0_2.size ≤ 9223372036854775807
     ·rw [if_pos c21] at H
      have c21b0 := eq_true c21; have c21b1 := decide_eq_true c21
      try have c21b2 : (9223372036854775807 < (strOfNums y324).size + a0_2.size) = False := eq_false (Nat.not_lt.2 c21)
      obtain rfl := Option.some.inj H
      go_enter Tryz.func28, Tryz.ntmps28
      go_wp2_with (first | ((with_reducible refine gate_dst (N := 1) rfl ?_); refine bx_ 1 #[.int .i64 a0_0, .int .i64 a0_1, .string a0_2] 50 ?_; intro gb316 hg w22 hbox hb; have BK316 := am_ (hbox); have GW316 := gw_ hg; have GE316 := gw_ hg; replace HB := bs_ hb; clear hb hbox hg; obtain ⟨hcz23_0, hcz23_1, hcz23_2, hfz23_0, hfz23_1, hfz23_2⟩ := b3_ BK316) | ((with_reducible refine gate_callee (f := 50) rfl ?_); refine gsL_ (some 8) Tryz.func50 #[.agg #[.int .i64 a0_0, .int .i64 a0_1, .string a0_2]] ?_; (with_reducible refine (spec_ValueOk.calls a0_0 a0_1 a0_2 true _ A2.out).mono ?_); rintro e w24 ⟨rfl, hb⟩; refine ⟨_, rfl, ?_⟩; replace BK316 := bkb_ BK316 hb; replace HB := bs_ hb; (try clear hb); obtain ⟨hcz25_0, hcz25_1, hcz25_2, hfz25_0, hfz25_1, hfz25_2⟩ := b3_ BK316) | ((with_reducible refine gate_dst (N := 13) rfl ?_); refine Kd.R_lit (Kd.int .u8) _ 5 ?hg (N := 13) ?hd (xs := ([(a0_0) % 256] : List Int)) (inner := [.int .u8 ((a0_0) % 256)]) (ok := fun _ => True) (okp := fun _ => True) ?hr ?hp (fun _ hk => hk) trivial (Below.refl _ _) (Nat.le_refl _) (by simp) ?_; (case hd => rfl); (case hg => rfl); (case hr => first | (go_simp; done) | (go_simp; rfl)); (case hp => exact (Reps.one (show Kd.M (Kd.int .u8) _ _ _ ((a0_0) % 256) [.int .u8 ((a0_0) % 256)] from rfl) (Reps.none _ _))); intro v319 w26 ho27 hb hg_ hnew_; clear hg_ hnew_; (first | rw [← Ny318.out] at ho27 | (simp only [Int.reduceToNat] at ho27; rw [← Ny318.out] at ho27)); have HO320 := am_ (Kd.R_lower ho27 (below_size bb_)); replace BK316 := bkb_ BK316 hb; replace HB := bs_ hb; clear hb ho27; obtain ⟨hcz28_0, hcz28_1, hcz28_2, hfz28_0, hfz28_1, hfz28_2⟩ := b3_ BK316) | ((with_reducible refine gate_builtin (b := .append) (xs := #[.tmp 37, .tmp 41]) rfl ?_); at_builtin; refine Kd.R_append (Kd.int .u8) (w0 := w) w.heap.size rfl (.tmp 37) (.tmp 41) 22 5 (.int .u8 0) 1 rfl Tryz.underlying22 info5 rfl (by decide) (by omega) v319 y318 ((a0_1) % 256) [.int .u8 ((a0_1) % 256)] (fun _ => True) (fun _ => False) rfl rfl ?aP (fun _ hk => hk.elim) ?aF ?aO ?aB ?aS ?aL ?_; (case aP => exact rfl); (case aB => exact bb_); (case aF => exact (fun _ _ => trivial)); (case aO => exact (rk_ HO320.out)); (case aS => exact (below_size bb_)); (case aL => have := LMc20.out; omega); intro v325 w29 ho hb hg hat; rw [← Ny324.out] at ho; have HO326 := am_ (ho); replace BK316 := am_ (blk_grown (g := gb316) (o := .cells #[.int .i64 a0_0, .int .i64 a0_1, .string a0_2] 50 (0, 0)) (bkx_ BK316.out) hg (Kd.R_ne HO320.out BK316.out (by decide))); replace HB := am_ (hb); clear HO320; clear ho hb hg hat; have hcv30 := own_string (P := Tryz.prog) Tryz.underlying22 Tryz.underlying5 Tryz.underlying9 (Kd.own_of_R HO326.out); obtain ⟨hcz31_0, hcz31_1, hcz31_2, hfz31_0, hfz31_1, hfz31_2⟩ := b3_ BK316))
      go_ret
      exact ⟨er_, bb_⟩
     ·rw [if_neg c21] at H
      exact nn_ H
    ·rw [if_neg c20] at H
     exact nn_ H
   ·rw [if_neg c19] at H
    have c19b0 : (a0_0 == 2) = false := beq_eq_false_iff_ne.mpr c19; have c19b1 : (a0_0 != 2) = true := bne_iff_ne.mpr c19
    by_cases c32 : a0_0 = 3
    ·rw [if_pos c32] at H
     have c32b0 : (a0_0 == 3) = true := beq_iff_eq.mpr c32; have c32b1 : (a0_0 != 3) = false := bne_eq_false_iff_eq.mpr c32; clear c32
     by_cases c33 : y318.length < 140737488355328
     ·rw [if_pos c33] at H
      have LMc33 := am_ c33; clear c33; obtain ⟨y327, hy327⟩ : ∃ y_ : List Int, y_ = (y318 ++ [((a0_2.size : Int)) % 256]) := ⟨_, rfl⟩; (replace H : (if (strOfNums y327).size + a0_2.size ≤ 9223372036854775807 then (some ((strOfNums y327) ++ a0_2)) else (none)) = some r := by first | (rw [hy327]; with_reducible exact H) | (have H2_ := (Option.bind_some _ _).symm.trans H; rw [hy327]; with_reducible exact H2_) | (have H2_ := (Option.bind_some _ _).symm.trans H; with_reducible exact H2_) | with_reducible exact H | (rw [hy327]; exact H) | exact H); have Ny327 := am_ hy327; clear hy327
      by_cases c34 : (strOfNums y327).size + a0_2.size ≤ 9223372036854775807
      ·rw [if_pos c34] at H
       have c34b0 := eq_true c34; have c34b1 := decide_eq_true c34
       try have c34b2 : (9223372036854775807 < (strOfNums y327).size + a0_2.size) = False := eq_false (Nat.not_lt.2 c34)
       obtain rfl := Option.some.inj H
       go_enter Tryz.func28, Tryz.ntmps28
       go_wp2_with (first | ((with_reducible refine gate_dst (N := 1) rfl ?_); refine bx_ 1 #[.int .i64 a0_0, .int .i64 a0_1, .string a0_2] 50 ?_; intro gb316 hg w35 hbox hb; have BK316 := am_ (hbox); have GW316 := gw_ hg; have GE316 := gw_ hg; replace HB := bs_ hb; clear hb hbox hg; obtain ⟨hcz36_0, hcz36_1, hcz36_2, hfz36_0, hfz36_1, hfz36_2⟩ := b3_ BK316) | ((with_reducible refine gate_callee (f := 50) rfl ?_); refine gsL_ (some 8) Tryz.func50 #[.agg #[.int .i64 a0_0, .int .i64 a0_1, .string a0_2]] ?_; (with_reducible refine (spec_ValueOk.calls a0_0 a0_1 a0_2 true _ A2.out).mono ?_); rintro e w37 ⟨rfl, hb⟩; refine ⟨_, rfl, ?_⟩; replace BK316 := bkb_ BK316 hb; replace HB := bs_ hb; (try clear hb); obtain ⟨hcz38_0, hcz38_1, hcz38_2, hfz38_0, hfz38_1, hfz38_2⟩ := b3_ BK316) | ((with_reducible refine gate_dst (N := 13) rfl ?_); refine Kd.R_lit (Kd.int .u8) _ 5 ?hg (N := 13) ?hd (xs := ([(a0_0) % 256] : List Int)) (inner := [.int .u8 ((a0_0) % 256)]) (ok := fun _ => True) (okp := fun _ => True) ?hr ?hp (fun _ hk => hk) trivial (Below.refl _ _) (Nat.le_refl _) (by simp) ?_; (case hd => rfl); (case hg => rfl); (case hr => first | (go_simp; done) | (go_simp; rfl)); (case hp => exact (Reps.one (show Kd.M (Kd.int .u8) _ _ _ ((a0_0) % 256) [.int .u8 ((a0_0) % 256)] from rfl) (Reps.none _ _))); intro v319 w39 ho40 hb hg_ hnew_; clear hg_ hnew_; (first | rw [← Ny318.out] at ho40 | (simp only [Int.reduceToNat] at ho40; rw [← Ny318.out] at ho40)); have HO320 := am_ (Kd.R_lower ho40 (below_size bb_)); replace BK316 := bkb_ BK316 hb; replace HB := bs_ hb; clear hb ho40; obtain ⟨hcz41_0, hcz41_1, hcz41_2, hfz41_0, hfz41_1, hfz41_2⟩ := b3_ BK316) | ((with_reducible refine gate_builtin (b := .append) (xs := #[.tmp 45, .tmp 50]) rfl ?_); at_builtin; refine Kd.R_append (Kd.int .u8) (w0 := w) w.heap.size rfl (.tmp 45) (.tmp 50) 22 5 (.int .u8 0) 1 rfl Tryz.underlying22 info5 rfl (by decide) (by omega) v319 y318 (((a0_2.size : Int)) % 256) [.int .u8 (((a0_2.size : Int)) % 256)] (fun _ => True) (fun _ => False) rfl rfl ?aP (fun _ hk => hk.elim) ?aF ?aO ?aB ?aS ?aL ?_; (case aP => exact rfl); (case aB => exact bb_); (case aF => exact (fun _ _ => trivial)); (case aO => exact (rk_ HO320.out)); (case aS => exact (below_size bb_)); (case aL => have := LMc33.out; omega); intro v328 w42 ho hb hg hat; rw [← Ny327.out] at ho; have HO329 := am_ (ho); replace BK316 := am_ (blk_grown (g := gb316) (o := .cells #[.int .i64 a0_0, .int .i64 a0_1, .string a0_2] 50 (0, 0)) (bkx_ BK316.out) hg (Kd.R_ne HO320.out BK316.out (by decide))); replace HB := am_ (hb); clear HO320; clear ho hb hg hat; have hcv43 := own_string (P := Tryz.prog) Tryz.underlying22 Tryz.underlying5 Tryz.underlying9 (Kd.own_of_R HO329.out); obtain ⟨hcz44_0, hcz44_1, hcz44_2, hfz44_0, hfz44_1, hfz44_2⟩ := b3_ BK316))
       go_ret
       exact ⟨er_, bb_⟩
      ·rw [if_neg c34] at H
       exact nn_ H
     ·rw [if_neg c33] at H
      exact nn_ H
    ·rw [if_neg c32] at H
     have c32b0 : (a0_0 == 3) = false := beq_eq_false_iff_ne.mpr c32; have c32b1 : (a0_0 != 3) = true := bne_iff_ne.mpr c32
     by_cases c45 : (strOfNums y318).size + a0_2.size ≤ 9223372036854775807
     ·rw [if_pos c45] at H
      have c45b0 := eq_true c45; have c45b1 := decide_eq_true c45
      try have c45b2 : (9223372036854775807 < (strOfNums y318).size + a0_2.size) = False := eq_false (Nat.not_lt.2 c45)
      obtain rfl := Option.some.inj H
      go_enter Tryz.func28, Tryz.ntmps28
      go_wp2_with (first | ((with_reducible refine gate_dst (N := 1) rfl ?_); refine bx_ 1 #[.int .i64 a0_0, .int .i64 a0_1, .string a0_2] 50 ?_; intro gb316 hg w46 hbox hb; have BK316 := am_ (hbox); have GW316 := gw_ hg; have GE316 := gw_ hg; replace HB := bs_ hb; clear hb hbox hg; obtain ⟨hcz47_0, hcz47_1, hcz47_2, hfz47_0, hfz47_1, hfz47_2⟩ := b3_ BK316) | ((with_reducible refine gate_callee (f := 50) rfl ?_); refine gsL_ (some 8) Tryz.func50 #[.agg #[.int .i64 a0_0, .int .i64 a0_1, .string a0_2]] ?_; (with_reducible refine (spec_ValueOk.calls a0_0 a0_1 a0_2 true _ A2.out).mono ?_); rintro e w48 ⟨rfl, hb⟩; refine ⟨_, rfl, ?_⟩; replace BK316 := bkb_ BK316 hb; replace HB := bs_ hb; (try clear hb); obtain ⟨hcz49_0, hcz49_1, hcz49_2, hfz49_0, hfz49_1, hfz49_2⟩ := b3_ BK316) | ((with_reducible refine gate_dst (N := 13) rfl ?_); refine Kd.R_lit (Kd.int .u8) _ 5 ?hg (N := 13) ?hd (xs := ([(a0_0) % 256] : List Int)) (inner := [.int .u8 ((a0_0) % 256)]) (ok := fun _ => True) (okp := fun _ => True) ?hr ?hp (fun _ hk => hk) trivial (Below.refl _ _) (Nat.le_refl _) (by simp) ?_; (case hd => rfl); (case hg => rfl); (case hr => first | (go_simp; done) | (go_simp; rfl)); (case hp => exact (Reps.one (show Kd.M (Kd.int .u8) _ _ _ ((a0_0) % 256) [.int .u8 ((a0_0) % 256)] from rfl) (Reps.none _ _))); intro v319 w50 ho51 hb hg_ hnew_; clear hg_ hnew_; (first | rw [← Ny318.out] at ho51 | (simp only [Int.reduceToNat] at ho51; rw [← Ny318.out] at ho51)); have HO320 := am_ (Kd.R_lower ho51 (below_size bb_)); replace BK316 := bkb_ BK316 hb; replace HB := bs_ hb; clear hb ho51; obtain ⟨hcz52_0, hcz52_1, hcz52_2, hfz52_0, hfz52_1, hfz52_2⟩ := b3_ BK316; have hcv53 := own_string (P := Tryz.prog) Tryz.underlying22 Tryz.underlying5 Tryz.underlying9 (Kd.own_of_R HO320.out)))
      go_ret
      exact ⟨er_, bb_⟩
     ·rw [if_neg c45] at H
      exact nn_ H
 ·replace c3 := Bool.eq_false_iff.mpr c3
  subst c3; (rw [if_neg (show ¬ (false = true) by decide)] at H); obtain rfl := Option.some.inj H
  go_enter Tryz.func28, Tryz.ntmps28
  go_wp2_with (first | ((with_reducible refine gate_dst (N := 1) rfl ?_); refine bx_ 1 #[.int .i64 a0_0, .int .i64 a0_1, .string a0_2] 50 ?_; intro gb316 hg w54 hbox hb; have BK316 := am_ (hbox); have GW316 := gw_ hg; have GE316 := gw_ hg; replace HB := bs_ hb; clear hb hbox hg; obtain ⟨hcz55_0, hcz55_1, hcz55_2, hfz55_0, hfz55_1, hfz55_2⟩ := b3_ BK316) | ((with_reducible refine gate_callee (f := 50) rfl ?_); refine gsL_ (some 8) Tryz.func50 #[.agg #[.int .i64 a0_0, .int .i64 a0_1, .string a0_2]] ?_; (with_reducible refine (spec_ValueOk.calls a0_0 a0_1 a0_2 false _ A2.out).mono ?_); rintro e w56 ⟨rfl, hb⟩; refine ⟨_, rfl, ?_⟩; replace BK316 := bkb_ BK316 hb; replace HB := bs_ hb; (try clear hb)))
  go_ret
  exact ⟨er_, bb_⟩

/-! ### spec_PutBag: function 10 -/
-- by hand
mutual
def spec_PutBag.l0 : Nat → List Int → Int → Int → List (S47) → Option (ByteArray)
 | 0, _, _, _, _ => none
 | k + 1, x3, x4, x141000, x141001 => if x4 < (x141001.length : Int) then (if 0 ≤ x4 then ((spec_l01Int.f ((rd_T47 x141001 x4).f1)).bind fun bt146 => ((spec_PutValue.f k bt146.1 bt146.2.1 bt146.2.2).bind fun t149 => (if x3.length + t149.size < 140737488355328 then (spec_PutBag.l1 k (x3 ++ bytesOf t149) x4 0 x141000 x141001) else (none)))) else (none)) else (some (strOfNums x3))
def spec_PutBag.l1 : Nat → List Int → Int → Int → Int → List (S47) → Option (ByteArray)
 | 0, _, _, _, _, _ => none
 | k + 1, x3, x4, x5, x141000, x141001 => if 0 ≤ x4 then (if x4 < (x141001.length : Int) then (if x5 < (((rd_T47 x141001 x4).f0).length : Int) then (if 0 ≤ x5 then ((spec_PutValue.f k ((rd_T50 ((rd_T47 x141001 x4).f0) x5).f0) ((rd_T50 ((rd_T47 x141001 x4).f0) x5).f1) ((rd_T50 ((rd_T47 x141001 x4).f0) x5).f2)).bind fun t156 => (if x3.length + t156.size < 140737488355328 then (spec_PutBag.l1 k (x3 ++ bytesOf t156) x4 (wrap64 (x5 + 1)) x141000 x141001) else (none))) else (none)) else (spec_PutBag.l0 k x3 (wrap64 (x4 + 1)) x141000 x141001)) else (none)) else (none)
end
def spec_PutBag.f (k : Nat) (a0_0 : Int) (l0_1 : List (S47)) : Option (ByteArray) := (spec_BagOk.f k a0_0 l0_1).bind fun t141 => (if t141 = true then (spec_PutBag.l0 k (([(a0_0) % 256] : List Int)) 0 a0_0 l0_1) else (some (⟨#[]⟩ : ByteArray)))
theorem cvt_ {P : Program} {ops : Array Oper} {Q : Exit → Act → World → Prop} {o : Oper} {rest : List Oper} {a : Act} {W : World} (N : Tmp) (src dst e : TypeId) (s : ByteArray) (x : Operand) (hs : P.underlying src = some .string) (hd : P.underlying dst = some (.slice e)) (he : P.underlying e = some (.int .u8)) (hn : s.size ≤ 9223372036854775807)
 (h : ∀ g c w1, ReadsInt w1 .u8 (some ⟨g, 0, none⟩) s.size (bytesOf s) → Below W.heap.size W w1 → wpList P ops Q rest (a.put o.dst (.slice (some ⟨g, 0, none⟩) s.size c)) w1)
 (hgd : o.guard = none := by rfl) (hop : o.op = .convert src dst x := by rfl) (hv : a.eval x = .string s := by rfl) : wpList P ops Q (o :: rest) a W := by
 refine Kd.event_run hgd (v := .slice (some ⟨W.heap.size, 0, none⟩) s.size (grownCap W s.size 0 e)) (w1 := Lib.bytesWorld W e s) ?_ (h _ _ _ (bytes_reads W e s hn) ⟨rfl, rfl, rfl, by rw [Lib.bytesWorld_size]; omega, fun i hi => Lib.bytesWorld_at_old W e s i hi⟩)
 have hr := Lib.run_convert_string_bytes (P := P) W src dst e s hs hd he
 simp [execOp, hop, hv, hr]
set_option maxHeartbeats 8000000 in
set_option maxRecDepth 100000 in
theorem spec_PutBag.calls (k : Nat) (a0_0 : Int) (A0_1 : Option Addr) (c0_1 : Nat) (l0_1 : List (S47)) (r : ByteArray) (w : World) (hr0_1 : Kd.C k47 w A0_1 l0_1.length l0_1) (hc0_1 : l0_1.length ≤ c0_1) (h : spec_PutBag.f k a0_0 l0_1 = some r) :
  Calls Tryz.prog 10 #[.agg #[.int .i64 a0_0, .slice A0_1 l0_1.length c0_1]] w fun e w' => e = .returned (.string r) ∧ Below w.heap.size w w' := by
 have hu26 := Tryz.underlying26
 have hu50 := Tryz.underlying50
 have HR0_1 := am_ hr0_1
 have HC0_1 := am_ hc0_1
 clear hr0_1 hc0_1
 have HB := am_ (Below.refl w.heap.size w)
 have H : ((spec_BagOk.f k a0_0 l0_1).bind fun t141 => (if t141 = true then (spec_PutBag.l0 k (([(a0_0) % 256] : List Int)) 0 a0_0 l0_1) else (some (⟨#[]⟩ : ByteArray)))) = some r := h
 clear h
 replace H := bsi_ H
 obtain ⟨t141, A20, H⟩ := H
 try dsimp only at H
 have A2 := am_ A20
 clear A20
 by_cases c3 : t141 = true
 ·subst c3
  rw [if_pos rfl] at H
  obtain ⟨y142, hy142⟩ : ∃ y_ : List Int, y_ = (([(a0_0) % 256] : List Int)) := ⟨_, rfl⟩
  replace H : (spec_PutBag.l0 k y142 0 a0_0 l0_1) = some r := by first | (rw [hy142]; with_reducible exact H) | (have H2_ := (Option.bind_some _ _).symm.trans H; rw [hy142]; with_reducible exact H2_) | (have H2_ := (Option.bind_some _ _).symm.trans H; with_reducible exact H2_) | with_reducible exact H | (rw [hy142]; exact H) | exact H
  have Ny142 := am_ hy142
  clear hy142
  have H' := am_ H
  clear H
  go_enter Tryz.func10, Tryz.ntmps10
  go_wp2_with (first | ((with_reducible refine gate_dst (N := 1) rfl ?_); refine bx_ 1 #[.int .i64 a0_0, .slice A0_1 l0_1.length c0_1] 26 ?_; intro gb140 hg w4 hbox hb; have BK140 := am_ (hbox); have GW140 := gw_ hg; have GE140 := gw_ hg; replace HB := bs_ hb; clear hb hbox hg; obtain ⟨hcz5_0, hcz5_1, hfz5_0, hfz5_1⟩ := b2_ BK140) | ((with_reducible refine gate_callee (f := 14) rfl ?_); refine gsL_ (some 7) Tryz.func14 #[.agg #[.int .i64 a0_0, .slice A0_1 l0_1.length c0_1]] ?_; (with_reducible refine (spec_BagOk.calls k a0_0 _ _ l0_1 true _ ?side1 ?side2 A2.out).mono ?_); (case side1 => exact ck_ (Kd.C_below HR0_1.out HB.out)); (case side2 => exact HC0_1.out); rintro e w6 ⟨rfl, hb⟩; refine ⟨_, rfl, ?_⟩; replace BK140 := bkb_ BK140 hb; replace HB := bs_ hb; (try clear hb); (try clear hb2); (try clear hk); (try clear hi); obtain ⟨hcz7_0, hcz7_1, hfz7_0, hfz7_1⟩ := b2_ BK140) | ((with_reducible refine gate_dst (N := 12) rfl ?_); refine Kd.R_lit (Kd.int .u8) _ 5 ?hg (N := 12) ?hd (xs := ([(a0_0) % 256] : List Int)) (inner := [.int .u8 ((a0_0) % 256)]) (ok := fun _ => True) (okp := fun _ => True) ?hr ?hp (fun _ hk => hk) trivial (Below.refl _ _) (Nat.le_refl _) (by simp) ?_; (case hd => rfl); (case hg => rfl); (case hr => first | (go_simp; done) | (go_simp; rfl)); (case hp => exact (Reps.one (show Kd.M (Kd.int .u8) _ _ _ ((a0_0) % 256) [.int .u8 ((a0_0) % 256)] from rfl) (Reps.none _ _))); intro v143 w8 ho9 hb hg_ hnew_; clear hg_ hnew_; (first | rw [← Ny142.out] at ho9 | (simp only [Int.reduceToNat] at ho9; rw [← Ny142.out] at ho9)); have HO144 := am_ (Kd.R_lower ho9 (below_size bb_)); replace BK140 := bkb_ BK140 hb; replace HB := bs_ hb; clear hb ho9))
  go_loopg [3, 4] k (fun kq v3 v4 w' => ∃ (x3_1 : List Int) (x4_1 : Int), v4 = .int .i64 x4_1 ∧ Aside0 (spec_PutBag.l0 kq x3_1 x4_1 a0_0 l0_1 = some r) ∧ Aside0 (kq ≤ k) ∧ Aside0 (Kd.R (Kd.int .u8) 5 w' w.heap.size (fun _ => True) v3 x3_1) ∧ Aside0 (w'.heap[gb140]? = some (.cells #[.int .i64 a0_0, (.slice A0_1 l0_1.length c0_1)] 26 (0, 0))) ∧ Aside0 (Below w.heap.size w w'))
  case atStart => exact ⟨(y142), (0), rs_, H', ⟨Nat.le_refl _⟩, ⟨by (with_reducible repeat (first | apply Kd.R_alloc | apply Kd.R_drewN | apply Kd.R_drew)); exact HO144.out⟩, ⟨bkx_ BK140.out⟩, ⟨bb_⟩⟩
  case round =>
   clear H'
   try clear c1
   try clear p2
   try clear c3
   try clear c6
   try clear hcz5_0
   try clear hcz5_1
   try clear hcz7_0
   try clear hcz7_1
   try clear hfz5_0
   try clear hfz5_1
   try clear hfz7_0
   try clear hfz7_1
   obtain ⟨x3_1, x4_1, rfl, HA, HK1, HO_3, BK140, HB⟩ := hrel
   cases gk with
   | zero => exact absurd HA.out (by simp [spec_PutBag.l0])
   | succ k1 =>
    have H := HA.out
    clear HA
    simp only [spec_PutBag.l0] at H
    by_cases c10 : x4_1 < (l0_1.length : Int)
    ·rw [if_pos c10] at H
     have c10b0 := decide_eq_true c10
     clear c10
     by_cases c11 : 0 ≤ x4_1
     ·rw [if_pos c11] at H
      have c11b0 := decide_eq_true c11
      clear c11
      replace H := bsi_ H
      obtain ⟨⟨t146, t147, t148⟩, A120, H⟩ := H
      try dsimp only at H
      have A12 := am_ A120
      clear A120
      replace H := bsi_ H
      obtain ⟨t149, A130, H⟩ := H
      try dsimp only at H
      have A13 := am_ A130
      clear A130
      by_cases c14 : x3_1.length + t149.size < 140737488355328
      ·rw [if_pos c14] at H
       have LMc14 := am_ c14
       clear c14
       obtain ⟨y150, hy150⟩ : ∃ y_ : List Int, y_ = (x3_1 ++ bytesOf t149) := ⟨_, rfl⟩
       replace H : (spec_PutBag.l1 k1 y150 x4_1 0 a0_0 l0_1) = some r := by first | (rw [hy150]; with_reducible exact H) | (have H2_ := (Option.bind_some _ _).symm.trans H; rw [hy150]; with_reducible exact H2_) | (have H2_ := (Option.bind_some _ _).symm.trans H; with_reducible exact H2_) | with_reducible exact H | (rw [hy150]; exact H) | exact H
       have Ny150 := am_ hy150
       clear hy150
       have H' := am_ H
       clear H
       obtain ⟨hcz15_0, hcz15_1, hfz15_0, hfz15_1⟩ := b2_ BK140
       have p145 : 0 ≤ (x4_1 : Int) := oa_
       have q145 : x4_1 < (l0_1.length : Int) := oa_
       obtain ⟨ad145, A145_0, c145_0, e145, hx145_0, hx145_1, hl145_0, hi145_0⟩ := at_T47 HR0_1.out x4_1 p145 q145
       cases e145
       replace hx145_0 := hb_ HB hx145_0
       replace hx145_1 := hb_ HB hx145_1
       have HR145_0 := am_ hi145_0
       have HC145_0 := am_ hl145_0
       clear hi145_0 hl145_0
       replace p145 := eq_true p145
       replace q145 := eq_true q145
       go_wp2_with (first | ((with_reducible refine gate_callee (f := 29) rfl ?_); refine gsL_ (some 27) Tryz.func29 #[.int .i64 ((rd_T47 l0_1 x4_1).f1)] ?_; (with_reducible refine (spec_l01Int.calls ((rd_T47 l0_1 x4_1).f1) t146 t147 t148 _ A12.out).mono ?_); rintro e w16 ⟨rfl, hb⟩; refine ⟨_, rfl, ?_⟩; replace HO_3 := am_ (Kd.R_below (rk_ HO_3.out) hb); replace BK140 := bkb_ BK140 hb; replace HB := bs_ hb; (try clear hb); (try clear hb2); (try clear hk); (try clear hi)) | ((with_reducible refine gate_callee (f := 28) rfl ?_); refine gsL_ (some 28) Tryz.func28 #[.agg #[.int .i64 t146, .int .i64 t147, .string t148]] ?_; (with_reducible refine (spec_PutValue.calls k1 t146 t147 t148 t149 _ A13.out).mono ?_); rintro e w17 ⟨rfl, hb⟩; refine ⟨_, rfl, ?_⟩; replace HO_3 := am_ (Kd.R_below (rk_ HO_3.out) hb); replace BK140 := bkb_ BK140 hb; replace HB := bs_ hb; (try clear hb); (try clear hb2); (try clear hk); (try clear hi)) | ((with_reducible refine gate_dst (N := 29) rfl ?_); refine cvt_ 29 9 22 5 t149 (.tmp 28) Tryz.underlying9 Tryz.underlying22 Tryz.underlying5 (by have := LMc14.out; omega) ?_; intro gc1 cc1 wc1 hrd hb; have RD := am_ hrd; replace HO_3 := am_ (Kd.R_below (rk_ HO_3.out) hb); replace BK140 := bkb_ BK140 hb; replace HB := bs_ hb; clear hrd hb) | (at_builtin; refine print_append_row (w0 := w) w.heap.size rfl (.tmp 20) (.tmp 29) 22 5 .u8 1 rfl Tryz.underlying22 info5 (by decide) u3 x3_1 (bytesOf t149) (some ⟨gc1, 0, none⟩) t149.size cc1 rfl rfl ?aO RD.out ?aB ?aS ?aL ?_; (case aB => exact bb_); (case aO => exact (Kd.own_of_R (rk_ HO_3.out))); (case aS => exact (below_size bb_)); (case aL => have := LMc14.out; omega); intro v151 w18 ho0 hb hg hat0; have ho := Kd.R_of_own (h1 := fun _ => rfl) (ok := fun _ => True) ho0 (fun _ _ => trivial); clear ho0 hat0; have hat := True.intro; rw [← Ny150.out] at ho; change Kd.R (Kd.int .u8) 5 w18 w.heap.size (fun _ => True) v151 y150 at ho; have n0_ := am_ (blk_grown (g := gb140) (o := .cells #[.int .i64 a0_0, .slice (some ad145) l0_1.length c0_1] 26 (0, 0)) (bkx_ BK140.out) hg (Kd.R_ne HO_3.out BK140.out (by decide))); have n1_ := am_ (hb); have n2_ := am_ (ho); clear BK140; clear HB; clear HO_3; have BK140 := n0_; have HB := n1_; have HO152 := n2_; clear n0_ n1_ n2_; clear ho hb hg hat))
       go_loopg [3, 5] k1 (fun kq v3 v5 w' => ∃ (x3_2 : List Int) (x5_2 : Int), v5 = .int .i64 x5_2 ∧ Aside0 (spec_PutBag.l1 kq x3_2 x4_1 x5_2 a0_0 l0_1 = some r) ∧ Aside0 (kq ≤ k1) ∧ Aside0 (Kd.R (Kd.int .u8) 5 w' w.heap.size (fun _ => True) v3 x3_2) ∧ Aside0 (w'.heap[gb140]? = some (.cells #[.int .i64 a0_0, (.slice (some ad145) l0_1.length c0_1)] 26 (0, 0))) ∧ Aside0 (Below w.heap.size w w'))
       case atStart => exact ⟨(y150), (0), rs_, H', ⟨Nat.le_refl _⟩, ⟨by (with_reducible repeat (first | apply Kd.R_alloc | apply Kd.R_drewN | apply Kd.R_drew)); exact HO152.out⟩, ⟨bkx_ BK140.out⟩, ⟨bb_⟩⟩
       case round =>
        clear H'
        try clear c1
        try clear p1
        try clear q1
        try clear hx1
        try clear p2
        try clear c3
        try clear c6
        try clear c10
        try clear c10b0
        try clear c11
        try clear c11b0
        try clear c14
        try clear p14
        try clear q14
        try clear hx14
        try clear c15
        try clear c16
        try clear c17
        try clear hcz15_0
        try clear hcz15_1
        try clear hcz5_0
        try clear hcz5_1
        try clear hcz7_0
        try clear hcz7_1
        try clear hfz15_0
        try clear hfz15_1
        try clear hfz5_0
        try clear hfz5_1
        try clear hfz7_0
        try clear hfz7_1
        try clear hx145_0
        try clear hx145_1
        try clear p145
        try clear p2
        try clear q145
        obtain ⟨x3_2, x5_2, rfl, HA, HK2, HO_3, BK140, HB⟩ := hrel
        cases gk with
        | zero => exact absurd HA.out (by simp [spec_PutBag.l1])
        | succ k2 =>
         have H := HA.out
         clear HA
         simp only [spec_PutBag.l1] at H
         by_cases c19 : 0 ≤ x4_1
         ·rw [if_pos c19] at H
          have c19b0 := decide_eq_true c19
          clear c19
          by_cases c20 : x4_1 < (l0_1.length : Int)
          ·rw [if_pos c20] at H
           have c20b0 := decide_eq_true c20
           clear c20
           by_cases c21 : x5_2 < (((rd_T47 l0_1 x4_1).f0).length : Int)
           ·rw [if_pos c21] at H
            have c21b0 := decide_eq_true c21
            clear c21
            by_cases c22 : 0 ≤ x5_2
            ·rw [if_pos c22] at H
             have c22b0 := decide_eq_true c22
             clear c22
             replace H := bsi_ H
             obtain ⟨t156, A230, H⟩ := H
             try dsimp only at H
             have A23 := am_ A230
             clear A230
             by_cases c24 : x3_2.length + t156.size < 140737488355328
             ·rw [if_pos c24] at H
              have LMc24 := am_ c24
              clear c24
              obtain ⟨y157, hy157⟩ : ∃ y_ : List Int, y_ = (x3_2 ++ bytesOf t156) := ⟨_, rfl⟩
              replace H : (spec_PutBag.l1 k2 y157 x4_1 (wrap64 (x5_2 + 1)) a0_0 l0_1) = some r := by first | (rw [hy157]; with_reducible exact H) | (have H2_ := (Option.bind_some _ _).symm.trans H; rw [hy157]; with_reducible exact H2_) | (have H2_ := (Option.bind_some _ _).symm.trans H; with_reducible exact H2_) | with_reducible exact H | (rw [hy157]; exact H) | exact H
              have Ny157 := am_ hy157
              clear hy157
              have H' := am_ H
              clear H
              obtain ⟨hcz25_0, hcz25_1, hfz25_0, hfz25_1⟩ := b2_ BK140
              have p153 : 0 ≤ (x4_1 : Int) := oa_
              have q153 : x4_1 < (l0_1.length : Int) := oa_
              obtain ⟨ad153, A153_0, c153_0, e153, hx153_0, hx153_1, hl153_0, hi153_0⟩ := at_T47 HR0_1.out x4_1 p153 q153
              obtain rfl : ad145 = ad153 := (by injection e153)
              replace hx153_0 := hb_ HB hx153_0
              replace hx153_1 := hb_ HB hx153_1
              have HR153_0 := am_ hi153_0
              have HC153_0 := am_ hl153_0
              clear hi153_0 hl153_0
              replace p153 := eq_true p153
              replace q153 := eq_true q153
              have p154 : 0 ≤ (x4_1 : Int) := oa_
              have q154 : x4_1 < (l0_1.length : Int) := oa_
              obtain ⟨ad154, A154_0, c154_0, e154, hx154_0, hx154_1, hl154_0, hi154_0⟩ := at_T47 HR0_1.out x4_1 p154 q154
              obtain rfl : ad145 = ad154 := (by injection e154)
              replace hx154_0 := hb_ HB hx154_0
              replace hx154_1 := hb_ HB hx154_1
              have HR154_0 := am_ hi154_0
              have HC154_0 := am_ hl154_0
              clear hi154_0 hl154_0
              replace p154 := eq_true p154
              replace q154 := eq_true q154
              have ea_ := Option.some.inj (hx153_0.symm.trans hx154_0)
              injection ea_ with ea_ en_ ec_
              subst ea_
              subst ec_
              clear en_
              have p155 : 0 ≤ (x5_2 : Int) := oa_
              have q155 : x5_2 < (((rd_T47 l0_1 x4_1).f0).length : Int) := oa_
              obtain ⟨ad155, e155, hx155_0, hx155_1, hx155_2⟩ := at_T50 HR154_0.out x5_2 p155 q155
              cases e155
              replace hx155_0 := hb_ HB hx155_0
              replace hx155_1 := hb_ HB hx155_1
              replace hx155_2 := hb_ HB hx155_2
              replace p155 := eq_true p155
              replace q155 := eq_true q155
              go_wp2_with (first | ((with_reducible refine gate_callee (f := 28) rfl ?_); refine gsL_ (some 52) Tryz.func28 #[.agg #[.int .i64 ((rd_T50 ((rd_T47 l0_1 x4_1).f0) x5_2).f0), .int .i64 ((rd_T50 ((rd_T47 l0_1 x4_1).f0) x5_2).f1), .string ((rd_T50 ((rd_T47 l0_1 x4_1).f0) x5_2).f2)]] ?_; (with_reducible refine (spec_PutValue.calls k2 ((rd_T50 ((rd_T47 l0_1 x4_1).f0) x5_2).f0) ((rd_T50 ((rd_T47 l0_1 x4_1).f0) x5_2).f1) ((rd_T50 ((rd_T47 l0_1 x4_1).f0) x5_2).f2) t156 _ A23.out).mono ?_); rintro e w26 ⟨rfl, hb⟩; refine ⟨_, rfl, ?_⟩; replace HO_3 := am_ (Kd.R_below (rk_ HO_3.out) hb); replace BK140 := bkb_ BK140 hb; replace HB := bs_ hb; (try clear hb); (try clear hb2); (try clear hk); (try clear hi)) | ((with_reducible refine gate_dst (N := 53) rfl ?_); refine cvt_ 53 9 22 5 t156 (.tmp 52) Tryz.underlying9 Tryz.underlying22 Tryz.underlying5 (by have := LMc24.out; omega) ?_; intro gc2 cc2 wc2 hrd hb; have RD := am_ hrd; replace HO_3 := am_ (Kd.R_below (rk_ HO_3.out) hb); replace BK140 := bkb_ BK140 hb; replace HB := bs_ hb; clear hrd hb) | (at_builtin; refine print_append_row (w0 := w) w.heap.size rfl (.tmp 42) (.tmp 53) 22 5 .u8 1 rfl Tryz.underlying22 info5 (by decide) u3 x3_2 (bytesOf t156) (some ⟨gc2, 0, none⟩) t156.size cc2 rfl rfl ?aO RD.out ?aB ?aS ?aL ?_; (case aB => exact bb_); (case aO => exact (Kd.own_of_R (rk_ HO_3.out))); (case aS => exact (below_size bb_)); (case aL => have := LMc24.out; omega); intro v158 w27 ho0 hb hg hat0; have ho := Kd.R_of_own (h1 := fun _ => rfl) (ok := fun _ => True) ho0 (fun _ _ => trivial); clear ho0 hat0; have hat := True.intro; rw [← Ny157.out] at ho; change Kd.R (Kd.int .u8) 5 w27 w.heap.size (fun _ => True) v158 y157 at ho; have n0_ := am_ (blk_grown (g := gb140) (o := .cells #[.int .i64 a0_0, .slice (some ad145) l0_1.length c0_1] 26 (0, 0)) (bkx_ BK140.out) hg (Kd.R_ne HO_3.out BK140.out (by decide))); have n1_ := am_ (hb); have n2_ := am_ (ho); clear BK140; clear HB; clear HO_3; have BK140 := n0_; have HB := n1_; have HO159 := n2_; clear n0_ n1_ n2_; clear ho hb hg hat))
              go_roundg k2
              case measure => have := HK1.out; have := HK2.out; omega
              case rel => exact ⟨(y157), (wrap64 (x5_2 + 1)), rs_, H', ⟨by have := HK1.out; have := HK2.out; omega⟩, ⟨by (with_reducible repeat (first | apply Kd.R_alloc | apply Kd.R_drewN | apply Kd.R_drew)); exact HO159.out⟩, ⟨bkx_ BK140.out⟩, ⟨bb_⟩⟩
             ·rw [if_neg c24] at H
              exact nn_ H
            ·rw [if_neg c22] at H
             exact nn_ H
           ·rw [if_neg c21] at H
            have c21b0 := decide_eq_false c21
            clear c21
            have H' := am_ H
            clear H
            obtain ⟨hcz28_0, hcz28_1, hfz28_0, hfz28_1⟩ := b2_ BK140
            have p153 : 0 ≤ (x4_1 : Int) := oa_
            have q153 : x4_1 < (l0_1.length : Int) := oa_
            obtain ⟨ad153, A153_0, c153_0, e153, hx153_0, hx153_1, hl153_0, hi153_0⟩ := at_T47 HR0_1.out x4_1 p153 q153
            obtain rfl : ad145 = ad153 := (by injection e153)
            replace hx153_0 := hb_ HB hx153_0
            replace hx153_1 := hb_ HB hx153_1
            have HR153_0 := am_ hi153_0
            have HC153_0 := am_ hl153_0
            clear hi153_0 hl153_0
            replace p153 := eq_true p153
            replace q153 := eq_true q153
            go_wp2
            go_roundg k2
            case measure => have := HK1.out; have := HK2.out; omega
            case rel => exact ⟨(x3_2), (wrap64 (x4_1 + 1)), rs_, H', ⟨by have := HK1.out; have := HK2.out; omega⟩, ⟨by (with_reducible repeat (first | apply Kd.R_alloc | apply Kd.R_drewN | apply Kd.R_drew)); exact HO_3.out⟩, ⟨bkx_ BK140.out⟩, ⟨bb_⟩⟩
          ·rw [if_neg c20] at H
           exact nn_ H
         ·rw [if_neg c19] at H
          exact nn_ H
      ·rw [if_neg c14] at H
       exact nn_ H
     ·rw [if_neg c11] at H
      exact nn_ H
    ·rw [if_neg c10] at H
     have c10b0 := decide_eq_false c10
     clear c10
     obtain rfl := Option.some.inj H
     obtain ⟨hcz29_0, hcz29_1, hfz29_0, hfz29_1⟩ := b2_ BK140
     have hcv30 := own_string (P := Tryz.prog) Tryz.underlying22 Tryz.underlying5 Tryz.underlying9 (Kd.own_of_R HO_3.out)
     go_wp2
     go_ret
     exact ⟨er_, bb_⟩
 ·replace c3 := Bool.eq_false_iff.mpr c3
  subst c3
  rw [if_neg (show ¬ (false = true) by decide)] at H
  obtain rfl := Option.some.inj H
  go_enter Tryz.func10, Tryz.ntmps10
  go_wp2_with (first | ((with_reducible refine gate_dst (N := 1) rfl ?_); refine bx_ 1 #[.int .i64 a0_0, .slice A0_1 l0_1.length c0_1] 26 ?_; intro gb140 hg w31 hbox hb; have BK140 := am_ (hbox); have GW140 := gw_ hg; have GE140 := gw_ hg; replace HB := bs_ hb; clear hb hbox hg; obtain ⟨hcz32_0, hcz32_1, hfz32_0, hfz32_1⟩ := b2_ BK140) | ((with_reducible refine gate_callee (f := 14) rfl ?_); refine gsL_ (some 7) Tryz.func14 #[.agg #[.int .i64 a0_0, .slice A0_1 l0_1.length c0_1]] ?_; (with_reducible refine (spec_BagOk.calls k a0_0 _ _ l0_1 false _ ?side1 ?side2 A2.out).mono ?_); (case side1 => exact ck_ (Kd.C_below HR0_1.out HB.out)); (case side2 => exact HC0_1.out); rintro e w33 ⟨rfl, hb⟩; refine ⟨_, rfl, ?_⟩; replace BK140 := bkb_ BK140 hb; replace HB := bs_ hb; (try clear hb); (try clear hb2); (try clear hk); (try clear hi)))
  go_ret
  exact ⟨er_, bb_⟩

/-! ### spec_DrawGetBag: function 7 -/
def spec_DrawGetBag.f (k : Nat) (l0 : List Int) : Option (ByteArray) := (spec_l01New.f k l0).bind fun bt330 => ((spec_l02Any.f k bt330.1 bt330.2.1 bt330.2.2).bind fun bt334 => ((spec_PutBag.f k bt334.1 bt334.2.1).bind fun t340 => ((spec_l01Below.f bt330.1 bt334.2.2.1 bt334.2.2.2 (wrap64 ((t340.size : Int) + 1))).bind fun bt341 => ((spec_l01Below.f bt330.1 bt341.2.1 bt341.2.2 6).bind fun bt344 => (if bt344.1 = 0 then (if 0 ≤ bt341.1 then (if bt341.1 ≤ (t340.size : Int) then (some (t340.extract 0 (bt341.1 : Int).toNat)) else (none)) else (none)) else (if bt344.1 = 1 then (if 0 ≤ bt341.1 then (if bt341.1 ≤ (t340.size : Int) then ((spec_l01Pick.f bt330.1 bt344.2.1 bt344.2.2 (([(⟨#[0]⟩ : ByteArray), (⟨#[1]⟩ : ByteArray), (⟨#[3]⟩ : ByteArray)] : List ByteArray))).bind fun bt350 => (if (t340.extract 0 (bt341.1 : Int).toNat).size + bt350.1.size ≤ 9223372036854775807 then (if ((t340.extract 0 (bt341.1 : Int).toNat) ++ bt350.1).size + (t340.extract (bt341.1 : Int).toNat t340.size).size ≤ 9223372036854775807 then (some (((t340.extract 0 (bt341.1 : Int).toNat) ++ bt350.1) ++ (t340.extract (bt341.1 : Int).toNat t340.size))) else (none)) else (none))) else (none)) else (none)) else (some t340)))))))
def spec_DrawGetBag.T8 : Bool × List (List Nat × List Nat) := (true, [([], []), ([], []), ([0, 1], [0, 1]), ([], []), ([], []), ([3, 4], [3, 4]), ([2, 5], [2, 5]), ([], []), ([], []), ([7, 8], [7, 8]), ([6, 9], [6, 9]), ([10, 5, 0, 1, 2, 3, 4, 5, 6, 7, 8, 9, 10], [10])])
def spec_DrawGetBag.B8 : List Nat := [0, 0, 3, 0, 0, 24, 63, 0, 0, 384, 1023, 2047]
theorem spec_DrawGetBag.tab8 : rtab .any (opsOf Tryz.f7 8) = spec_DrawGetBag.T8 := by kernel_rfl
theorem spec_DrawGetBag.bits8 : waitsOk spec_DrawGetBag.T8.2 spec_DrawGetBag.B8 = true := by kernel_rfl
theorem ab1_ {B : Nat} {w W : World} (h : Below B w W := by repeat (first | (with_reducible first | exact HB.out | apply below_alloc | apply pw_below_drewN | apply below_drew1) | exact HB.out)) : Below B w W := h
theorem ab2_ {w0 W : World} {g : Nat} {f0 : List Int} {f1 : Int} {f2 : Int} (h : IsS75 w0 W g f0 f1 f2 := by repeat (first | (with_reducible first | exact HI333.out | apply IsS75.alloc | apply IsS75.drewN | apply IsS75.drew | apply IsS75.set_1 | apply IsS75.set_2) | exact HI333.out)) : IsS75 w0 W g f0 f1 f2 := h
theorem ab3_ {B : Nat} {w W : World} (h : Below B w W := by repeat (first | (with_reducible first | exact HB.out | apply below_alloc | apply pw_below_drewN | apply below_drew1 | refine below_set ?_ (IsS75.ge HI333.out)) | exact HB.out)) : Below B w W := h
set_option maxHeartbeats 8000000 in
set_option maxRecDepth 100000 in
theorem spec_DrawGetBag.calls (k : Nat) (A0 : Option Addr) (c0 : Nat) (l0 : List Int) (r : ByteArray) (w : World) (hr0 : Kd.C (Kd.int .u8) w A0 l0.length l0) (hc0 : l0.length ≤ c0) (h : spec_DrawGetBag.f k l0 = some r) :
  Calls Tryz.prog 7 #[.slice A0 l0.length c0] w fun e w' => e = .returned (.string r) ∧ Below w.heap.size w w' := by
 have HR0 := am_ hr0
 have HC0 := am_ hc0
 clear hr0 hc0
 have HB := am_ (Below.refl w.heap.size w)
 have H : ((spec_l01New.f k l0).bind fun bt330 => ((spec_l02Any.f k bt330.1 bt330.2.1 bt330.2.2).bind fun bt334 => ((spec_PutBag.f k bt334.1 bt334.2.1).bind fun t340 => ((spec_l01Below.f bt330.1 bt334.2.2.1 bt334.2.2.2 (wrap64 ((t340.size : Int) + 1))).bind fun bt341 => ((spec_l01Below.f bt330.1 bt341.2.1 bt341.2.2 6).bind fun bt344 => (if bt344.1 = 0 then (if 0 ≤ bt341.1 then (if bt341.1 ≤ (t340.size : Int) then (some (t340.extract 0 (bt341.1 : Int).toNat)) else (none)) else (none)) else (if bt344.1 = 1 then (if 0 ≤ bt341.1 then (if bt341.1 ≤ (t340.size : Int) then ((spec_l01Pick.f bt330.1 bt344.2.1 bt344.2.2 (([(⟨#[0]⟩ : ByteArray), (⟨#[1]⟩ : ByteArray), (⟨#[3]⟩ : ByteArray)] : List ByteArray))).bind fun bt350 => (if (t340.extract 0 (bt341.1 : Int).toNat).size + bt350.1.size ≤ 9223372036854775807 then (if ((t340.extract 0 (bt341.1 : Int).toNat) ++ bt350.1).size + (t340.extract (bt341.1 : Int).toNat t340.size).size ≤ 9223372036854775807 then (some (((t340.extract 0 (bt341.1 : Int).toNat) ++ bt350.1) ++ (t340.extract (bt341.1 : Int).toNat t340.size))) else (none)) else (none))) else (none)) else (none)) else (some t340)))))))) = some r := h
 clear h
 replace H := bsi_ H
 obtain ⟨⟨t330, t331, t332⟩, A20, H⟩ := H
 try dsimp only at H
 have A2 := am_ A20
 clear A20
 replace H := bsi_ H
 obtain ⟨⟨t334, t335, t338, t339⟩, A30, H⟩ := H
 try dsimp only at H
 have A3 := am_ A30
 clear A30
 replace H := bsi_ H
 obtain ⟨t340, A40, H⟩ := H
 try dsimp only at H
 have A4 := am_ A40
 clear A40
 replace H := bsi_ H
 obtain ⟨⟨t341, t342, t343⟩, A50, H⟩ := H
 try dsimp only at H
 have A5 := am_ A50
 clear A50
 replace H := bsi_ H
 obtain ⟨⟨t344, t345, t346⟩, A60, H⟩ := H
 try dsimp only at H
 have A6 := am_ A60
 clear A60
 by_cases c7 : t344 = 0
 ·rw [if_pos c7] at H
  have c7b0 : (t344 == 0) = true := beq_iff_eq.mpr c7; have c7b1 : (t344 != 0) = false := bne_eq_false_iff_eq.mpr c7; clear c7
  by_cases c8 : 0 ≤ t341
  ·rw [if_pos c8] at H
   have c8b0 := eq_true c8; have c8b1 := decide_eq_true c8; clear c8
   by_cases c9 : t341 ≤ (t340.size : Int)
   ·rw [if_pos c9] at H
    have c9b0 := eq_true c9; have c9b1 := decide_eq_true c9; clear c9; obtain rfl := Option.some.inj H
    go_enter Tryz.func7, Tryz.ntmps7
    go_wp2_with (first | ((with_reducible refine gate_callee (f := 16) rfl ?_); refine gsL_ (some 7) Tryz.func16 #[.slice A0 l0.length c0] ?_; (with_reducible refine (spec_l01New.calls k _ _ l0 t330 t331 t332 w _ ?side1 ?side2 ?side3 A2.out).mono ?_); (case side1 => exact ab1_); (case side2 => exact HR0.out); (case side3 => exact HC0.out); rintro e w10 ⟨g333, rfl, hi, hb, hb2⟩; refine ⟨_, rfl, ?_⟩; have HI333 := am_ (hi); replace HB := am_ (hb); (try clear hb)) | ((with_reducible refine gate_callee (f := 15) rfl ?_); refine gsL_ (some 9) Tryz.func15 #[.pointer (some ⟨g333, 0, none⟩)] ?_; (with_reducible refine (spec_l02Any.calls k g333 t330 t331 t332 t334 t335 t338 t339 w _ ?side1 ?side2 A3.out).mono ?_); (case side1 => exact ab2_); (case side2 => exact ab3_); rintro e w11 ⟨v336, rfl, ho0, hi, hb, hk⟩; refine ⟨_, rfl, ?_⟩; have HO337 := am_ (Kd.N_lower (Kd.N_mono (ok' := fun k_ => k_ ≠ g333) ho0 (fun k_ hk_ => (IsS75.fresh ab2_ k_ hk_))) (below_size ab3_)); replace HI333 := am_ (hi); replace HB := am_ (hb); (try clear hb); (try clear ho0); obtain ⟨Ao12, co12, eo12⟩ := Kd.N_slice HO337.out; subst eo12) | ((with_reducible refine gate_callee (f := 10) rfl ?_); refine gsL_ (some 10) Tryz.func10 #[.agg #[.int .i64 t334, .slice Ao12 t335.length co12]] ?_; (with_reducible refine (spec_PutBag.calls k t334 _ _ t335 t340 _ ?side1 ?side2 A4.out).mono ?_); (case side1 => exact ck_ (Kd.N_reads' HO337.out).2.2); (case side2 => exact (Kd.N_reads' HO337.out).2.1); rintro e w13 ⟨rfl, hb⟩; refine ⟨_, rfl, ?_⟩; have n0_ := am_ (Kd.N_below (n3_ HO337.out) hb); have n1_ := am_ (IsS75.below ab2_ hb); have n2_ := am_ (below_step ab3_ hb); clear HO337; clear HI333; clear HB; have HO337 := n0_; have HI333 := n1_; have HB := n2_; clear n0_ n1_ n2_; (try clear hb)) | ((with_reducible refine gate_callee (f := 23) rfl ?_); refine gsL_ (some 15) Tryz.func23 #[.pointer (some ⟨g333, 0, none⟩), .int .i64 (wrap64 ((t340.size : Int) + 1))] ?_; (with_reducible refine (spec_l01Below.calls g333 t330 t338 t339 (wrap64 ((t340.size : Int) + 1)) t341 t342 t343 w _ ?side1 ?side2 A5.out).mono ?_); (case side1 => exact ab2_); (case side2 => exact ab3_); rintro e w14 ⟨rfl, hi, hb, hk⟩; refine ⟨_, rfl, ?_⟩; replace HO337 := am_ (Kd.N_mono (Kd.N_keep (Kd.N_mono (ok := fun k_ => k_ ≠ g333) (n3_ HO337.out) (fun k_ hk_ => (⟨hk_, hk_⟩ : _ ∧ k_ ≠ g333))) hk (fun _ h => h.2)) (fun _ h => h.1)); replace HI333 := am_ (hi); replace HB := am_ (hb); (try clear hb)) | ((with_reducible refine gate_callee (f := 23) rfl ?_); refine gsL_ (some 17) Tryz.func23 #[.pointer (some ⟨g333, 0, none⟩), .int .i64 6] ?_; (with_reducible refine (spec_l01Below.calls g333 t330 t342 t343 6 t344 t345 t346 w _ ?side1 ?side2 A6.out).mono ?_); (case side1 => exact ab2_); (case side2 => exact ab3_); rintro e w15 ⟨rfl, hi, hb, hk⟩; refine ⟨_, rfl, ?_⟩; replace HO337 := am_ (Kd.N_mono (Kd.N_keep (Kd.N_mono (ok := fun k_ => k_ ≠ g333) (n3_ HO337.out) (fun k_ hk_ => (⟨hk_, hk_⟩ : _ ∧ k_ ≠ g333))) hk (fun _ h => h.2)) (fun _ h => h.1)); replace HI333 := am_ (hi); replace HB := am_ (hb); (try clear hb)))
    go_ret
    (exact ⟨rr_, ab3_⟩)
   ·rw [if_neg c9] at H
    exact nn_ H
  ·rw [if_neg c8] at H
   exact nn_ H
 ·rw [if_neg c7] at H
  have c7b0 : (t344 == 0) = false := beq_eq_false_iff_ne.mpr c7; have c7b1 : (t344 != 0) = true := bne_iff_ne.mpr c7
  by_cases c16 : t344 = 1
  ·rw [if_pos c16] at H
   have c16b0 : (t344 == 1) = true := beq_iff_eq.mpr c16; have c16b1 : (t344 != 1) = false := bne_eq_false_iff_eq.mpr c16; clear c16
   by_cases c17 : 0 ≤ t341
   ·rw [if_pos c17] at H
    have c17b0 := eq_true c17; have c17b1 := decide_eq_true c17; clear c17
    by_cases c18 : t341 ≤ (t340.size : Int)
    ·rw [if_pos c18] at H
     have c18b0 := eq_true c18; have c18b1 := decide_eq_true c18; clear c18; obtain ⟨y347, hy347⟩ : ∃ y_ : List ByteArray, y_ = (([(⟨#[0]⟩ : ByteArray), (⟨#[1]⟩ : ByteArray), (⟨#[3]⟩ : ByteArray)] : List ByteArray)) := ⟨_, rfl⟩; (replace H : ((spec_l01Pick.f t330 t345 t346 y347).bind fun bt350 => (if (t340.extract 0 (t341 : Int).toNat).size + bt350.1.size ≤ 9223372036854775807 then (if ((t340.extract 0 (t341 : Int).toNat) ++ bt350.1).size + (t340.extract (t341 : Int).toNat t340.size).size ≤ 9223372036854775807 then (some (((t340.extract 0 (t341 : Int).toNat) ++ bt350.1) ++ (t340.extract (t341 : Int).toNat t340.size))) else (none)) else (none))) = some r := by first | (rw [hy347]; with_reducible exact H) | (have H2_ := (Option.bind_some _ _).symm.trans H; rw [hy347]; with_reducible exact H2_) | (have H2_ := (Option.bind_some _ _).symm.trans H; with_reducible exact H2_) | with_reducible exact H | (rw [hy347]; exact H) | exact H); have Ny347 := am_ hy347; clear hy347; replace H := bsi_ H; obtain ⟨⟨t350, t351, t352⟩, A190, H⟩ := H
     try dsimp only at H
     have A19 := am_ A190; clear A190
     by_cases c20 : (t340.extract 0 (t341 : Int).toNat).size + t350.size ≤ 9223372036854775807
     ·rw [if_pos c20] at H
      have c20b0 := eq_true c20; have c20b1 := decide_eq_true c20
      try have c20b2 : (9223372036854775807 < (t340.extract 0 (t341 : Int).toNat).size + t350.size) = False := eq_false (Nat.not_lt.2 c20)
      (try (have c20b2y : (9223372036854775807 < t341.toNat + t350.size) = False := by (apply eq_false; have hq_ := c20; simp only [ByteArray.size_append, ByteArray.size_extract] at hq_; have hl0_ : t341 ≤ (t340.size : Int) := oa_; omega))); (have c21b0 := eq_true (oa_ : 0 ≤ t341)); (have c22b0 := eq_true (oa_ : t341 ≤ (t340.size : Int)))
      by_cases c23 : ((t340.extract 0 (t341 : Int).toNat) ++ t350).size + (t340.extract (t341 : Int).toNat t340.size).size ≤ 9223372036854775807
      ·rw [if_pos c23] at H
       have c23b0 := eq_true c23; have c23b1 := decide_eq_true c23
       try have c23b2 : (9223372036854775807 < ((t340.extract 0 (t341 : Int).toNat) ++ t350).size + (t340.extract (t341 : Int).toNat t340.size).size) = False := eq_false (Nat.not_lt.2 c23)
       (try (have c23b0z := c23b0; simp only [ByteArray.size_append] at c23b0z)); (try (have c23b1z := c23b1; simp only [ByteArray.size_append] at c23b1z)); (try (have c23b2z := c23b2; simp only [ByteArray.size_append] at c23b2z)); (try (have c23b2y : (9223372036854775807 < t341.toNat + t350.size + (t340.size - t341.toNat)) = False := by (apply eq_false; have hq_ := c23; simp only [ByteArray.size_append, ByteArray.size_extract] at hq_; have hl0_ : t341 ≤ (t340.size : Int) := oa_; omega))); obtain rfl := Option.some.inj H
       go_enter Tryz.func7, Tryz.ntmps7
       try go_wp2_with (first | ((with_reducible refine gate_callee (f := 16) rfl ?_); refine gsL_ (some 7) Tryz.func16 #[.slice A0 l0.length c0] ?_; (with_reducible refine (spec_l01New.calls k _ _ l0 t330 t331 t332 w _ ?side1 ?side2 ?side3 A2.out).mono ?_); (case side1 => exact ab1_); (case side2 => exact HR0.out); (case side3 => exact HC0.out); rintro e w24 ⟨g333, rfl, hi, hb, hb2⟩; refine ⟨_, rfl, ?_⟩; have HI333 := am_ (hi); replace HB := am_ (hb); (try clear hb)) | ((with_reducible refine gate_callee (f := 15) rfl ?_); refine gsL_ (some 9) Tryz.func15 #[.pointer (some ⟨g333, 0, none⟩)] ?_; (with_reducible refine (spec_l02Any.calls k g333 t330 t331 t332 t334 t335 t338 t339 w _ ?side1 ?side2 A3.out).mono ?_); (case side1 => exact ab2_); (case side2 => exact ab3_); rintro e w25 ⟨v336, rfl, ho0, hi, hb, hk⟩; refine ⟨_, rfl, ?_⟩; have HO337 := am_ (Kd.N_lower (Kd.N_mono (ok' := fun k_ => k_ ≠ g333) ho0 (fun k_ hk_ => (IsS75.fresh ab2_ k_ hk_))) (below_size ab3_)); replace HI333 := am_ (hi); replace HB := am_ (hb); (try clear hb); (try clear ho0); obtain ⟨Ao26, co26, eo26⟩ := Kd.N_slice HO337.out; subst eo26) | ((with_reducible refine gate_callee (f := 10) rfl ?_); refine gsL_ (some 10) Tryz.func10 #[.agg #[.int .i64 t334, .slice Ao26 t335.length co26]] ?_; (with_reducible refine (spec_PutBag.calls k t334 _ _ t335 t340 _ ?side1 ?side2 A4.out).mono ?_); (case side1 => exact ck_ (Kd.N_reads' HO337.out).2.2); (case side2 => exact (Kd.N_reads' HO337.out).2.1); rintro e w27 ⟨rfl, hb⟩; refine ⟨_, rfl, ?_⟩; have n0_ := am_ (Kd.N_below (n3_ HO337.out) hb); have n1_ := am_ (IsS75.below ab2_ hb); have n2_ := am_ (below_step ab3_ hb); clear HO337; clear HI333; clear HB; have HO337 := n0_; have HI333 := n1_; have HB := n2_; clear n0_ n1_ n2_; (try clear hb)) | ((with_reducible refine gate_callee (f := 23) rfl ?_); refine gsL_ (some 15) Tryz.func23 #[.pointer (some ⟨g333, 0, none⟩), .int .i64 (wrap64 ((t340.size : Int) + 1))] ?_; (with_reducible refine (spec_l01Below.calls g333 t330 t338 t339 (wrap64 ((t340.size : Int) + 1)) t341 t342 t343 w _ ?side1 ?side2 A5.out).mono ?_); (case side1 => exact ab2_); (case side2 => exact ab3_); rintro e w28 ⟨rfl, hi, hb, hk⟩; refine ⟨_, rfl, ?_⟩; replace HO337 := am_ (Kd.N_mono (Kd.N_keep (Kd.N_mono (ok := fun k_ => k_ ≠ g333) (n3_ HO337.out) (fun k_ hk_ => (⟨hk_, hk_⟩ : _ ∧ k_ ≠ g333))) hk (fun _ h => h.2)) (fun _ h => h.1)); replace HI333 := am_ (hi); replace HB := am_ (hb); (try clear hb)) | ((with_reducible refine gate_callee (f := 23) rfl ?_); refine gsL_ (some 17) Tryz.func23 #[.pointer (some ⟨g333, 0, none⟩), .int .i64 6] ?_; (with_reducible refine (spec_l01Below.calls g333 t330 t342 t343 6 t344 t345 t346 w _ ?side1 ?side2 A6.out).mono ?_); (case side1 => exact ab2_); (case side2 => exact ab3_); rintro e w29 ⟨rfl, hi, hb, hk⟩; refine ⟨_, rfl, ?_⟩; replace HO337 := am_ (Kd.N_mono (Kd.N_keep (Kd.N_mono (ok := fun k_ => k_ ≠ g333) (n3_ HO337.out) (fun k_ hk_ => (⟨hk_, hk_⟩ : _ ∧ k_ ≠ g333))) hk (fun _ h => h.2)) (fun _ h => h.1)); replace HI333 := am_ (hi); replace HB := am_ (hb); (try clear hb)))
       replace HO337 := am_ (Kd.N_drew HO337.out); replace HI333 := am_ (IsS75.drew HI333.out); replace HB := am_ (below_drew1 HB.out); (refine start_ (n := 12) (S := fun w' => True) (ds := []) (tf 0 12) (by kernel_rfl) rfl rfl trivial (fun hHeld => ?_); refine with_tabW spec_DrawGetBag.tab8 spec_DrawGetBag.bits8 (fun HT_ HW_ => ?_)); generalize w29.drew = w30 at HO337 HI333 HB hHeld ⊢
       iterate 4 (refine pl_ ?_)
       refine plx_ 7 #[true, true, true, true, false, false, false, true, false, false, false, false] ?_; refine plx_ 8 #[true, true, true, true, false, false, false, true, true, false, false, false] ?_; refine plx_ 9 #[true, true, true, true, false, false, false, true, true, true, false, false] ?_; refine on1_ (i := 4) (N := some 29) #[true, true, true, true, true, false, false, true, true, true, false, false] (h := fun K hK => ?_); (refine Kd.R_lit_step Kd.string _ 9 ?hg (N := 29) ?hd (xs := ([(⟨#[0]⟩ : ByteArray), (⟨#[1]⟩ : ByteArray), (⟨#[3]⟩ : ByteArray)] : List ByteArray)) (inner := [.string (⟨#[0]⟩ : ByteArray), .string (⟨#[1]⟩ : ByteArray), .string (⟨#[3]⟩ : ByteArray)]) (ok := fun _ => True) (okp := fun _ => True) ?hr ?hp (fun _ hk => hk) trivial (Below.refl _ _) (Nat.le_refl _) (by simp) ?_; (case hd => rfl); (case hg => rfl); (case hr => first | (go_simp; done) | (go_simp; rfl)); (case hp => exact (Reps.one (show Kd.M Kd.string _ _ _ (⟨#[0]⟩ : ByteArray) [.string (⟨#[0]⟩ : ByteArray)] from rfl) (Reps.one (show Kd.M Kd.string _ _ _ (⟨#[1]⟩ : ByteArray) [.string (⟨#[1]⟩ : ByteArray)] from rfl) (Reps.one (show Kd.M Kd.string _ _ _ (⟨#[3]⟩ : ByteArray) [.string (⟨#[3]⟩ : ByteArray)] from rfl) (Reps.none _ _)))))); intro v348 w31 ho32 hb hg_ hnew_; clear hg_ hnew_; (first | rw [← Ny347.out] at ho32 | (simp only [Int.reduceToNat] at ho32; rw [← Ny347.out] at ho32)); have n0_ := am_ (Kd.N_elder' (n3_ HO337.out) (Kd.R_base ho32) hb); have n1_ := am_ (Kd.R_lower ho32 (below_size ab3_)); have n2_ := am_ (IsS75.below ab2_ hb); have n3_ := am_ (below_step ab3_ hb); clear HO337; clear HI333; clear HB; have HO337 := n0_; have HO349 := n1_; have HI333 := n2_; have HB := n3_; clear n0_ n1_ n2_ n3_; clear hb ho32; obtain ⟨Ao33, co33, eo33⟩ := Kd.R_slice HO349.out; (first | subst eo33 | (injection eo33 with f1_ f2_ f3_; have f4_ := f1_.symm; have f5_ := f3_.symm; clear f1_ f2_ f3_; subst f4_; subst f5_)); refine hK.out _ _ trivial (fun hHeld => ?_); clear hK K; refine nm_ ?_; refine on1_ (i := 5) (N := some 30) #[true, true, true, true, true, true, false, true, true, true, false, false] (h := fun K hK => ?_); refine gs_ Tryz.func24 #[.pointer (some ⟨g333, 0, none⟩), .slice Ao33 y347.length co33] ?_; (with_reducible refine (spec_l01Pick.calls g333 t330 t345 t346 _ _ y347 t350 t351 t352 w _ ?side1 ?side2 ?side3 ?side4 ?side5 A19.out).mono ?_); (case side1 => exact ab2_); (case side2 => exact ab3_); (case side3 => exact ck_ (Kd.R_reads' HO349.out).2.2); (case side4 => exact (Kd.R_reads' HO349.out).2.1); (case side5 => exact far_slice (IsS75.own_ne HI333.out HO349.out (by decide))); rintro e w34 ⟨rfl, hi, hb, hk⟩; refine ⟨_, rfl, ?_⟩; (have n0_ := am_ (Kd.N_mono (Kd.N_keep (Kd.N_mono (ok := fun k_ => (k_ ≠ g333 ∧ some k_ ≠ (.slice Ao33 y347.length co33 : Value).ownBlock)) (n3_ HO337.out) (fun k_ hk_ => (⟨hk_, hk_.1⟩ : _ ∧ k_ ≠ g333))) hk (fun _ h => h.2)) (fun _ h => h.1))); have n1_ := am_ (Kd.R_mono (Kd.R_keep (IsS75.apart (show IsS75 w _ g333 t330 t345 t346 from ab2_) (rk_ HO349.out) (by decide)) hk (fun _ h => h.2)) (fun _ h => h.1)); have n2_ := am_ (hb); have n3_ := am_ (hi); clear HO337; clear HO349; clear HB; clear HI333; have HO337 := n0_; have HO349 := n1_; have HB := n2_; have HI333 := n3_; clear n0_ n1_ n2_ n3_; (try clear hb); refine hK.out _ _ trivial (fun hHeld => ?_); clear hK K; refine nm_ ?_; refine plx_ 6 (tf 10 2) ?_
       iterate 2 (refine pl_ ?_)
       refine done_ (done_of HT_.out (by kernel_rfl)) ?_
       try go_wp2
       go_ret
       (exact ⟨rr_, ab3_⟩)
      ·rw [if_neg c23] at H
       exact nn_ H
     ·rw [if_neg c20] at H
      exact nn_ H
    ·rw [if_neg c18] at H
     exact nn_ H
   ·rw [if_neg c17] at H
    exact nn_ H
  ·rw [if_neg c16] at H
   have c16b0 : (t344 == 1) = false := beq_eq_false_iff_ne.mpr c16; have c16b1 : (t344 != 1) = true := bne_iff_ne.mpr c16; obtain rfl := Option.some.inj H
   go_enter Tryz.func7, Tryz.ntmps7
   go_wp2_with (first | ((with_reducible refine gate_callee (f := 16) rfl ?_); refine gsL_ (some 7) Tryz.func16 #[.slice A0 l0.length c0] ?_; (with_reducible refine (spec_l01New.calls k _ _ l0 t330 t331 t332 w _ ?side1 ?side2 ?side3 A2.out).mono ?_); (case side1 => exact ab1_); (case side2 => exact HR0.out); (case side3 => exact HC0.out); rintro e w35 ⟨g333, rfl, hi, hb, hb2⟩; refine ⟨_, rfl, ?_⟩; have HI333 := am_ (hi); replace HB := am_ (hb); (try clear hb)) | ((with_reducible refine gate_callee (f := 15) rfl ?_); refine gsL_ (some 9) Tryz.func15 #[.pointer (some ⟨g333, 0, none⟩)] ?_; (with_reducible refine (spec_l02Any.calls k g333 t330 t331 t332 t334 t335 t338 t339 w _ ?side1 ?side2 A3.out).mono ?_); (case side1 => exact ab2_); (case side2 => exact ab3_); rintro e w36 ⟨v336, rfl, ho0, hi, hb, hk⟩; refine ⟨_, rfl, ?_⟩; have HO337 := am_ (Kd.N_lower (Kd.N_mono (ok' := fun k_ => k_ ≠ g333) ho0 (fun k_ hk_ => (IsS75.fresh ab2_ k_ hk_))) (below_size ab3_)); replace HI333 := am_ (hi); replace HB := am_ (hb); (try clear hb); (try clear ho0); obtain ⟨Ao37, co37, eo37⟩ := Kd.N_slice HO337.out; subst eo37) | ((with_reducible refine gate_callee (f := 10) rfl ?_); refine gsL_ (some 10) Tryz.func10 #[.agg #[.int .i64 t334, .slice Ao37 t335.length co37]] ?_; (with_reducible refine (spec_PutBag.calls k t334 _ _ t335 t340 _ ?side1 ?side2 A4.out).mono ?_); (case side1 => exact ck_ (Kd.N_reads' HO337.out).2.2); (case side2 => exact (Kd.N_reads' HO337.out).2.1); rintro e w38 ⟨rfl, hb⟩; refine ⟨_, rfl, ?_⟩; have n0_ := am_ (Kd.N_below (n3_ HO337.out) hb); have n1_ := am_ (IsS75.below ab2_ hb); have n2_ := am_ (below_step ab3_ hb); clear HO337; clear HI333; clear HB; have HO337 := n0_; have HI333 := n1_; have HB := n2_; clear n0_ n1_ n2_; (try clear hb)) | ((with_reducible refine gate_callee (f := 23) rfl ?_); refine gsL_ (some 15) Tryz.func23 #[.pointer (some ⟨g333, 0, none⟩), .int .i64 (wrap64 ((t340.size : Int) + 1))] ?_; (with_reducible refine (spec_l01Below.calls g333 t330 t338 t339 (wrap64 ((t340.size : Int) + 1)) t341 t342 t343 w _ ?side1 ?side2 A5.out).mono ?_); (case side1 => exact ab2_); (case side2 => exact ab3_); rintro e w39 ⟨rfl, hi, hb, hk⟩; refine ⟨_, rfl, ?_⟩; replace HO337 := am_ (Kd.N_mono (Kd.N_keep (Kd.N_mono (ok := fun k_ => k_ ≠ g333) (n3_ HO337.out) (fun k_ hk_ => (⟨hk_, hk_⟩ : _ ∧ k_ ≠ g333))) hk (fun _ h => h.2)) (fun _ h => h.1)); replace HI333 := am_ (hi); replace HB := am_ (hb); (try clear hb)) | ((with_reducible refine gate_callee (f := 23) rfl ?_); refine gsL_ (some 17) Tryz.func23 #[.pointer (some ⟨g333, 0, none⟩), .int .i64 6] ?_; (with_reducible refine (spec_l01Below.calls g333 t330 t342 t343 6 t344 t345 t346 w _ ?side1 ?side2 A6.out).mono ?_); (case side1 => exact ab2_); (case side2 => exact ab3_); rintro e w40 ⟨rfl, hi, hb, hk⟩; refine ⟨_, rfl, ?_⟩; replace HO337 := am_ (Kd.N_mono (Kd.N_keep (Kd.N_mono (ok := fun k_ => k_ ≠ g333) (n3_ HO337.out) (fun k_ hk_ => (⟨hk_, hk_⟩ : _ ∧ k_ ≠ g333))) hk (fun _ h => h.2)) (fun _ h => h.1)); replace HI333 := am_ (hi); replace HB := am_ (hb); (try clear hb)))
   go_ret
   (exact ⟨rr_, ab3_⟩)

/-! ### impl_bigOf: function 48 -/
-- by hand
def bigStep (n : Int) (c : UInt8) : Int := bits .or .i64 (wrap64 (n * 256)) (c.toNat : Int)
def bigPre (s : ByteArray) (k : Nat) : Int := (s.data.toList.take k).foldl bigStep 0
def byteAt (s : ByteArray) (k : Nat) : Int := ((s.data.toList.getD k 0).toNat : Int)
def impl_bigOf.f (a0 : ByteArray) : Option Int := if a0.size ≤ 9223372036854775807 then some (bigPre a0 a0.size) else none
theorem big_snoc (s : ByteArray) (k : Nat) (h : k < s.size) : bits .or .i64 (wrap64 (bigPre s k * 256)) (byteAt s k) = bigPre s (k + 1) := by
  have hk : k < s.data.toList.length := by simpa using h
  unfold bigPre byteAt
  rw [List.take_succ_eq_append_getElem hk, List.foldl_append, List.getD_eq_getElem?_getD, List.getElem?_eq_getElem hk]
  rfl
theorem ret_int' {k : IntKind} {a b : Int} (h : a = b) : Ending.returned (.int k a) = .returned (.int k b) := by rw [h]
set_option maxRecDepth 100000 in
theorem impl_bigOf.calls (a0 : ByteArray) (r : Int) (w : World) (h : impl_bigOf.f a0 = some r) :
    Calls Tryz.prog 48 #[.string a0] w fun e w' => e = .returned (.int .i64 r) ∧ Below w.heap.size w w' := by
  unfold impl_bigOf.f at h
  split at h
  case isFalse => cases h
  rename_i hs
  obtain rfl := Option.some.inj h
  clear h
  have hB : Below w.heap.size w (Go.Lib.bytesWorld w 5 a0) := ⟨rfl, rfl, rfl, by rw [Go.Lib.bytesWorld_size]; omega, fun i hi => Go.Lib.bytesWorld_at_old w 5 a0 i hi⟩
  have HB := am_ hB
  clear hB
  have hcv := fun W : World => Go.Lib.run_convert_string_bytes (P := Tryz.prog) W 9 22 5 a0 Tryz.underlying9 Tryz.underlying22 Tryz.underlying5
  go_enter Tryz.func48, Tryz.ntmps48
  go_wp2
  go_loop [3, 9] (fun n i => ∃ k : Nat, k ≤ a0.size ∧ i = .int .i64 k ∧ n = .int .i64 (bigPre a0 k)) (fun _ i => a0.size - (intOf i).toNat)
  case atStart => exact ⟨0, Nat.zero_le _, rfl, rfl⟩
  case round =>
    obtain ⟨k, hk, rfl, rfl⟩ := hrel
    by_cases hlt : k < a0.size
    · have hcell : (Go.Lib.bytesWorld w 5 a0).cell? ⟨w.heap.size, k, none⟩ = some (.int .u8 (byteAt a0 k)) := Go.Lib.bytesWorld_cell w 5 a0 k hlt
      have hsn := am_ (big_snoc a0 k hlt)
      have hb0 : 0 ≤ byteAt a0 k := by unfold byteAt; omega
      have hb1 : byteAt a0 k ≤ 255 := by unfold byteAt; have := (a0.data.toList.getD k 0).toNat_lt; omega
      go_wp2
      go_round
      case rel => exact ⟨k + 1, by omega, by go_num, by rw [← hsn.out]⟩
      case measure => simp [intOf]; omega
    · have hke : k = a0.size := by omega
      have HE := am_ (congrArg (bigPre a0) hke)
      clear hke
      go_wp2
      go_ret
      exact ⟨ret_int' HE.out, HB.out⟩
/-- A state of type 58 at block g of W; what its slices lead to came in by w0. -/
def IsS58 (w0 W : World) (g : Nat) (f0 : ByteArray) (f1 : Int) (f2 : Bool) : Prop := W.heap[g]? = some (.cells #[.string f0, .int .i64 f1, .bool f2] 58 (0, 0)) ∧ w0.heap.size ≤ g
theorem IsS58.grown {w0 W : World} {g : Nat} {f0 : ByteArray} {f1 : Int} {f2 : Bool} {W1 : World} {row : Option Nat} (h : IsS58 w0 W g f0 f1 f2) (hw : W.grownBy W1 row) (hne : some g ≠ row) : IsS58 w0 W1 g f0 f1 f2 := by
 obtain ⟨hb, hg⟩ := h
 exact ⟨blk_grown hb hw hne, hg⟩
theorem IsS58.own_neN {w0 W : World} {g : Nat} {f0 : ByteArray} {f1 : Int} {f2 : Bool} {α : Type} {d : Kd α} {e : Nat} {base : Nat} {ok : Nat → Prop} {v : Value} {xs : List α} (h : IsS58 w0 W g f0 f1 f2) (ho : Kd.N d e W base ok v xs) (ht : e ≠ 58) : some g ≠ v.ownBlock := by
 obtain ⟨hb, hg⟩ := h
 exact Kd.N_ne ho hb ht
theorem IsS58.fresh {w0 W : World} {g : Nat} {f0 : ByteArray} {f1 : Int} {f2 : Bool} (h : IsS58 w0 W g f0 f1 f2) : ∀ k, W.heap.size ≤ k → k ≠ g := by
 obtain ⟨hb, hg⟩ := h
 exact Kd.freshB hb
theorem IsS58.kept {w0 W : World} {g : Nat} {f0 : ByteArray} {f1 : Int} {f2 : Bool} {W1 : World} {S : Nat → Prop} (h : IsS58 w0 W g f0 f1 f2) (hk : Kept W W1 S) (hne : ¬ S g) : IsS58 w0 W1 g f0 f1 f2 := by
 obtain ⟨hb, hg⟩ := h
 exact ⟨blk_kept hb hk hne, hg⟩
theorem IsS58.below {w0 W : World} {g : Nat} {f0 : ByteArray} {f1 : Int} {f2 : Bool} {W1 : World} (h : IsS58 w0 W g f0 f1 f2) (hw : Below W.heap.size W W1) : IsS58 w0 W1 g f0 f1 f2 := h.grown (grown_of_below hw none) (by simp)
theorem IsS58.alloc {w0 W : World} {g : Nat} {f0 : ByteArray} {f1 : Int} {f2 : Bool} (h : IsS58 w0 W g f0 f1 f2) (o : Obj) : IsS58 w0 (W.alloc o) g f0 f1 f2 := h.below (below_alloc (Below.refl _ _) o)
theorem IsS58.drewN {w0 W : World} {g : Nat} {f0 : ByteArray} {f1 : Int} {f2 : Bool} (h : IsS58 w0 W g f0 f1 f2) (m : Nat) : IsS58 w0 (W.drewN m) g f0 f1 f2 := h
theorem IsS58.drew {w0 W : World} {g : Nat} {f0 : ByteArray} {f1 : Int} {f2 : Bool} (h : IsS58 w0 W g f0 f1 f2) : IsS58 w0 W.drew g f0 f1 f2 := h
theorem IsS58.at_ {w0 W : World} {g : Nat} {f0 : ByteArray} {f1 : Int} {f2 : Bool} {w' : World} {m : Nat} (hq : W.drewN m = w') (h : IsS58 w0 W g f0 f1 f2) : IsS58 w0 w' g f0 f1 f2 := by subst hq; exact IsS58.drewN h m
theorem IsS58.apart {w0 W : World} {g : Nat} {f0 : ByteArray} {f1 : Int} {f2 : Bool} {α : Type} {d : Kd α} {e : Nat} {base : Nat} {ok : Nat → Prop} {v : Value} {xs : List α} (h : IsS58 w0 W g f0 f1 f2) (ho : d.R e W base ok v xs) (ht : ∀ q, q ∈ e :: d.E → q ≠ 58) : d.R e W base (fun k => ok k ∧ k ≠ g) v xs := by
 obtain ⟨hb, hg⟩ := h
 exact Kd.R_types ho hb ht
theorem IsS58.own_ne {w0 W : World} {g : Nat} {f0 : ByteArray} {f1 : Int} {f2 : Bool} {α : Type} {d : Kd α} {e : Nat} {base : Nat} {ok : Nat → Prop} {v : Value} {xs : List α} (h : IsS58 w0 W g f0 f1 f2) (ho : d.R e W base ok v xs) (ht : e ≠ 58) : some g ≠ v.ownBlock := by
 obtain ⟨hb, hg⟩ := h
 exact Kd.R_ne ho hb ht
theorem IsS58.apartS {w0 W : World} {g : Nat} {f0 : ByteArray} {f1 : Int} {f2 : Bool} {α : Type} {d : Kd α} {e : Nat} {base : Nat} {ok : Nat → Prop} {v : Value} {xs : List α} (h : IsS58 w0 W g f0 f1 f2) (ho : d.S e W base ok v xs) (ht : ∀ q, q ∈ e :: d.E → q ≠ 58) : d.S e W base (fun k => ok k ∧ k ≠ g) v xs := by
 obtain ⟨hb, hg⟩ := h
 exact Kd.S_types ho hb ht
theorem IsS58.own_neS {w0 W : World} {g : Nat} {f0 : ByteArray} {f1 : Int} {f2 : Bool} {α : Type} {d : Kd α} {e : Nat} {base : Nat} {ok : Nat → Prop} {v : Value} {xs : List α} (h : IsS58 w0 W g f0 f1 f2) (ho : d.S e W base ok v xs) (ht : e ≠ 58) : some g ≠ v.ownBlock := by
 obtain ⟨hb, hg⟩ := h
 exact Kd.S_ne ho hb ht
theorem IsS58.lt {w0 W : World} {g : Nat} {f0 : ByteArray} {f1 : Int} {f2 : Bool} (h : IsS58 w0 W g f0 f1 f2) : g < W.heap.size := by
 obtain ⟨hb, hg⟩ := h
 exact blk_lt hb
theorem IsS58.ge {w0 W : World} {g : Nat} {f0 : ByteArray} {f1 : Int} {f2 : Bool} (h : IsS58 w0 W g f0 f1 f2) : w0.heap.size ≤ g := by
 obtain ⟨hb, hg⟩ := h
 exact hg
theorem IsS58.ne_blk {w0 W : World} {g : Nat} {f0 : ByteArray} {f1 : Int} {f2 : Bool} {a : Nat} {cs : Array Value} {t : TypeId} {fr : Nat × Nat} (h : IsS58 w0 W g f0 f1 f2) (hb2 : W.heap[a]? = some (.cells cs t fr)) (ht : t ≠ 58) : g ≠ a := by
 obtain ⟨hb, hg⟩ := h
 rintro rfl
 rw [hb] at hb2
 injection hb2 with hb2
 injection hb2 with _ ht2
 exact ht ht2.symm
theorem IsS58.far {w0 W : World} {g : Nat} {f0 : ByteArray} {f1 : Int} {f2 : Bool} {p : Addr} (h : IsS58 w0 W g f0 f1 f2) (hne : g ≠ p.block) (u : Value) : IsS58 w0 (W.setCell p u) g f0 f1 f2 := by
 obtain ⟨hb, hg⟩ := h
 exact ⟨blk_far hb hne u, hg⟩
theorem cellS58_0 {W : World} {g : Nat} {f0 : ByteArray} {f1 : Int} {f2 : Bool} (h : W.heap[g]? = some (.cells #[.string f0, .int .i64 f1, .bool f2] 58 (0, 0))) : W.cell? ⟨g, 0, none⟩ = some (.string f0) := (blk_cell h 0).trans rfl
theorem IsS58.set_0 {w0 W : World} {g : Nat} {f0 : ByteArray} {f1 : Int} {f2 : Bool} (h : IsS58 w0 W g f0 f1 f2) (x : ByteArray) : IsS58 w0 (W.setCell ⟨g, 0, none⟩ (.string x)) g x f1 f2 := by
 obtain ⟨hb, hg⟩ := h
 exact ⟨by simpa using blk_set hb 0 (.string x), hg⟩
theorem cellS58_1 {W : World} {g : Nat} {f0 : ByteArray} {f1 : Int} {f2 : Bool} (h : W.heap[g]? = some (.cells #[.string f0, .int .i64 f1, .bool f2] 58 (0, 0))) : W.cell? ⟨g, 1, none⟩ = some (.int .i64 f1) := (blk_cell h 1).trans rfl
theorem IsS58.set_1 {w0 W : World} {g : Nat} {f0 : ByteArray} {f1 : Int} {f2 : Bool} (h : IsS58 w0 W g f0 f1 f2) (x : Int) : IsS58 w0 (W.setCell ⟨g, 1, none⟩ (.int .i64 x)) g f0 x f2 := by
 obtain ⟨hb, hg⟩ := h
 exact ⟨by simpa using blk_set hb 1 (.int .i64 x), hg⟩
theorem cellS58_2 {W : World} {g : Nat} {f0 : ByteArray} {f1 : Int} {f2 : Bool} (h : W.heap[g]? = some (.cells #[.string f0, .int .i64 f1, .bool f2] 58 (0, 0))) : W.cell? ⟨g, 2, none⟩ = some (.bool f2) := (blk_cell h 2).trans rfl
theorem IsS58.set_2 {w0 W : World} {g : Nat} {f0 : ByteArray} {f1 : Int} {f2 : Bool} (h : IsS58 w0 W g f0 f1 f2) (x : Bool) : IsS58 w0 (W.setCell ⟨g, 2, none⟩ (.bool x)) g f0 f1 x := by
 obtain ⟨hb, hg⟩ := h
 exact ⟨by simpa using blk_set hb 2 (.bool x), hg⟩
theorem IsS58.new (w0 W : World) (f0 : ByteArray) (f1 : Int) (f2 : Bool) (hB : Below w0.heap.size w0 W) : IsS58 w0 (W.alloc (.cells #[.string f0, .int .i64 f1, .bool f2] 58)) W.heap.size f0 f1 f2 := ⟨by simpa using heap_alloc_new W _, hB.size⟩

/-! ### impl_reader_take: function 49 -/
def impl_reader_take.f (s0_0 : ByteArray) (s0_1 : Int) (s0_2 : Bool) (a1 : Int) : Option (ByteArray × ByteArray × Int × Bool) := if s0_2 = true then (some ((⟨#[]⟩ : ByteArray), s0_0, s0_1, true)) else (if a1 > (wrap64 ((s0_0.size : Int) - s0_1)) then (some ((⟨#[]⟩ : ByteArray), s0_0, s0_1, true)) else (if 0 ≤ (wrap64 ((wrap64 (s0_1 + a1)) - a1)) then (if (wrap64 ((wrap64 (s0_1 + a1)) - a1)) ≤ (wrap64 (s0_1 + a1)) then (if (wrap64 (s0_1 + a1)) ≤ (s0_0.size : Int) then (some (s0_0.extract ((wrap64 ((wrap64 (s0_1 + a1)) - a1)) : Int).toNat ((wrap64 (s0_1 + a1)) : Int).toNat, s0_0, wrap64 (s0_1 + a1), s0_2)) else (none)) else (none)) else (none)))
theorem ab4_ {w0 W : World} {g : Nat} {f0 : ByteArray} {f1 : Int} {f2 : Bool} (h : IsS58 w0 W g f0 f1 f2 := by repeat (first | (with_reducible first | exact HI0.out | apply IsS58.alloc | apply IsS58.drewN | apply IsS58.drew | apply IsS58.set_0 | apply IsS58.set_1 | apply IsS58.set_2) | exact HI0.out)) : IsS58 w0 W g f0 f1 f2 := h
theorem ab5_ {B : Nat} {w W : World} (h : Below B w W := by repeat (first | (with_reducible first | exact HB.out | apply below_alloc | apply pw_below_drewN | apply below_drew1 | refine below_set ?_ (IsS58.ge HI0.out)) | exact HB.out)) : Below B w W := h
set_option maxHeartbeats 8000000 in
set_option maxRecDepth 100000 in
theorem impl_reader_take.calls (g : Nat) (s0_0 : ByteArray) (s0_1 : Int) (s0_2 : Bool) (a1 : Int) (r1 : ByteArray) (r2 : ByteArray) (r3 : Int) (r4 : Bool) (w0 w : World) (hI : IsS58 w0 w g s0_0 s0_1 s0_2) (hB : Below w0.heap.size w0 w) (h : impl_reader_take.f s0_0 s0_1 s0_2 a1 = some (r1, r2, r3, r4)) :
  Calls Tryz.prog 49 #[.pointer (some ⟨g, 0, none⟩), .int .i64 a1] w fun e w' => e = .returned (.string r1) ∧ IsS58 w0 w' g r2 r3 r4 ∧ Below w0.heap.size w0 w' ∧ KeepBut w w' g none := by
 have HI0 := am_ hI
 have HK := am_ (KeepBut.refl w g none)
 have HL := am_ hB.size
 clear hI
 have HW0 := am_ hB.size
 have HB := am_ hB
 clear hB
 have H : (if s0_2 = true then (some ((⟨#[]⟩ : ByteArray), s0_0, s0_1, true)) else (if a1 > (wrap64 ((s0_0.size : Int) - s0_1)) then (some ((⟨#[]⟩ : ByteArray), s0_0, s0_1, true)) else (if 0 ≤ (wrap64 ((wrap64 (s0_1 + a1)) - a1)) then (if (wrap64 ((wrap64 (s0_1 + a1)) - a1)) ≤ (wrap64 (s0_1 + a1)) then (if (wrap64 (s0_1 + a1)) ≤ (s0_0.size : Int) then (some (s0_0.extract ((wrap64 ((wrap64 (s0_1 + a1)) - a1)) : Int).toNat ((wrap64 (s0_1 + a1)) : Int).toNat, s0_0, wrap64 (s0_1 + a1), s0_2)) else (none)) else (none)) else (none)))) = some (r1, r2, r3, r4) := h
 clear h
 by_cases c3 : s0_2 = true
 ·subst c3
  rw [if_pos rfl] at H; simp only [Option.some.injEq, Prod.mk.injEq] at H; obtain ⟨rfl, rfl, rfl, rfl⟩ := H; obtain ⟨HGz4, hgz4⟩ := HI0.out; have hcz4_0 := cellS58_0 HGz4; have hcz4_1 := cellS58_1 HGz4; have hcz4_2 := cellS58_2 HGz4; have hfz4_0 := blk_frozen HGz4 0; have hfz4_1 := blk_frozen HGz4 1; have hfz4_2 := blk_frozen HGz4 2; clear HGz4 hgz4
  go_enter Tryz.func49, Tryz.ntmps49
  go_wp2
  repeat (go_quiet (fail); try go_wp2)
  go_ret
  (exact ⟨rr_, ab4_, ab5_, ab38_⟩)
 ·replace c3 := Bool.eq_false_iff.mpr c3
  subst c3; (rw [if_neg (show ¬ (false = true) by decide)] at H)
  by_cases c5 : a1 > (wrap64 ((s0_0.size : Int) - s0_1))
  ·rw [if_pos c5] at H
   have c5b0 := decide_eq_true c5; clear c5; simp only [Option.some.injEq, Prod.mk.injEq] at H; obtain ⟨rfl, rfl, rfl, rfl⟩ := H; obtain ⟨HGz6, hgz6⟩ := HI0.out; have hcz6_0 := cellS58_0 HGz6; have hcz6_1 := cellS58_1 HGz6; have hcz6_2 := cellS58_2 HGz6; have hfz6_0 := blk_frozen HGz6 0; have hfz6_1 := blk_frozen HGz6 1; have hfz6_2 := blk_frozen HGz6 2; clear HGz6 hgz6
   go_enter Tryz.func49, Tryz.ntmps49
   go_wp2
   repeat (go_quiet (fail); try go_wp2)
   go_ret
   (exact ⟨rr_, ab4_, ab5_, ab38_⟩)
  ·rw [if_neg c5] at H
   have c5b0 := decide_eq_false c5; clear c5; obtain ⟨ji7, hji7⟩ : ∃ j_ : Int, (wrap64 ((wrap64 (s0_1 + a1)) - a1)) = j_ := ⟨_, rfl⟩; (replace H : (if 0 ≤ (ji7) then (if (ji7) ≤ (wrap64 (s0_1 + a1)) then (if (wrap64 (s0_1 + a1)) ≤ (s0_0.size : Int) then (some (s0_0.extract ((ji7) : Int).toNat ((wrap64 (s0_1 + a1)) : Int).toNat, s0_0, wrap64 (s0_1 + a1), false)) else (none)) else (none)) else (none)) = some (r1, r2, r3, r4) := by first | (rw [hji7] at H; exact H) | (simp only [hji7] at H ⊢; exact H)); have hji7w : (IntKind.i64.wrap ((wrap64 (s0_1 + a1)) - a1)) = ji7 := (i64_w _).trans hji7
   by_cases c8 : 0 ≤ (ji7)
   ·rw [if_pos c8] at H
    have c8b0 := eq_true c8; have c8b1 := decide_eq_true c8; clear c8
    by_cases c9 : (ji7) ≤ (wrap64 (s0_1 + a1))
    ·rw [if_pos c9] at H
     have c9b0 := eq_true c9; have c9b1 := decide_eq_true c9
     by_cases c10 : (wrap64 (s0_1 + a1)) ≤ (s0_0.size : Int)
     ·rw [if_pos c10] at H
      have c10b0 := eq_true c10; have c10b1 := decide_eq_true c10; simp only [Option.some.injEq, Prod.mk.injEq] at H; obtain ⟨rfl, rfl, rfl, rfl⟩ := H; obtain ⟨HGz11, hgz11⟩ := HI0.out; have hcz11_0 := cellS58_0 HGz11; have hcz11_1 := cellS58_1 HGz11; have hcz11_2 := cellS58_2 HGz11; have hfz11_0 := blk_frozen HGz11 0; have hfz11_1 := blk_frozen HGz11 1; have hfz11_2 := blk_frozen HGz11 2; clear HGz11 hgz11
      go_enter Tryz.func49, Tryz.ntmps49
      go_wp2
      repeat (go_quiet (fail); try go_wp2)
      go_ret
      (exact ⟨by first | rfl | (simp [errW_none, errW_some] <;> rfl) | (simp only [← hji7]; first | rfl | (simp [errW_none, errW_some] <;> rfl)) | (simp [*, errW_none, errW_some] <;> rfl), ab4_, ab5_, ab38_⟩)
     ·rw [if_neg c10] at H
      exact nn_ H
    ·rw [if_neg c9] at H
     exact nn_ H
   ·rw [if_neg c8] at H
    exact nn_ H

/-! ### impl_reader_size: function 25 -/
def impl_reader_size.f (s0_0 : ByteArray) (s0_1 : Int) (s0_2 : Bool) (a1 : Int) : Option (Int × ByteArray × Int × Bool) := (impl_reader_take.f s0_0 s0_1 s0_2 a1).bind fun bt353 => ((impl_bigOf.f bt353.1).bind fun t357 => (some (t357, bt353.2.1, bt353.2.2.1, bt353.2.2.2)))
set_option maxHeartbeats 8000000 in
set_option maxRecDepth 100000 in
theorem impl_reader_size.calls (g : Nat) (s0_0 : ByteArray) (s0_1 : Int) (s0_2 : Bool) (a1 : Int) (r1 : Int) (r2 : ByteArray) (r3 : Int) (r4 : Bool) (w0 w : World) (hI : IsS58 w0 w g s0_0 s0_1 s0_2) (hB : Below w0.heap.size w0 w) (h : impl_reader_size.f s0_0 s0_1 s0_2 a1 = some (r1, r2, r3, r4)) :
  Calls Tryz.prog 25 #[.pointer (some ⟨g, 0, none⟩), .int .i64 a1] w fun e w' => e = .returned (.int .i64 r1) ∧ IsS58 w0 w' g r2 r3 r4 ∧ Below w0.heap.size w0 w' ∧ KeepBut w w' g none := by
 have HI0 := am_ hI
 have HK := am_ (KeepBut.refl w g none)
 have HL := am_ hB.size
 clear hI
 have HW0 := am_ hB.size
 have HB := am_ hB
 clear hB
 have H : ((impl_reader_take.f s0_0 s0_1 s0_2 a1).bind fun bt353 => ((impl_bigOf.f bt353.1).bind fun t357 => (some (t357, bt353.2.1, bt353.2.2.1, bt353.2.2.2)))) = some (r1, r2, r3, r4) := h
 clear h
 replace H := bsi_ H
 obtain ⟨⟨t353, t354, t355, t356⟩, A30, H⟩ := H
 try dsimp only at H
 have A3 := am_ A30
 clear A30
 replace H := bsi_ H
 obtain ⟨t357, A40, H⟩ := H
 try dsimp only at H
 have A4 := am_ A40
 clear A40
 simp only [Option.some.injEq, Prod.mk.injEq] at H
 obtain ⟨rfl, rfl, rfl, rfl⟩ := H
 go_enter Tryz.func25, Tryz.ntmps25
 go_wp2_with (first | ((with_reducible refine gate_callee (f := 49) rfl ?_); refine gsL_ (some 7) Tryz.func49 #[.pointer (some ⟨g, 0, none⟩), .int .i64 a1] ?_; (with_reducible refine (impl_reader_take.calls g s0_0 s0_1 s0_2 a1 t353 t354 t355 t356 w0 _ ?side1 ?side2 A3.out).mono ?_); (case side1 => exact ab4_); (case side2 => exact ab5_); rintro e w5 ⟨rfl, hi, hb, hk⟩; refine ⟨_, rfl, ?_⟩; replace HK := am_ (KeepBut.trans ab38_ hk (.inl rfl)); replace HI0 := am_ (hi); replace HB := am_ (hb); (try clear hb)) | ((with_reducible refine gate_callee (f := 48) rfl ?_); refine gsL_ (some 8) Tryz.func48 #[.string t353] ?_; (with_reducible refine (impl_bigOf.calls t353 t357 _ A4.out).mono ?_); rintro e w6 ⟨rfl, hb⟩; refine ⟨_, rfl, ?_⟩; have n0_ := am_ (IsS58.below ab4_ hb); have n1_ := am_ (KeepBut.trans ab38_ (KeepBut.of_below hb g none) (.inl rfl)); have n2_ := am_ (below_step ab5_ hb); clear HI0; clear HK; clear HB; have HI0 := n0_; have HK := n1_; have HB := n2_; clear n0_ n1_ n2_; (try clear hb)))
 go_ret
 exact ⟨rr_, ab4_, ab5_, ab38_⟩

/-! ### impl_reader_value: function 26 -/
def impl_reader_value.f (s0_0 : ByteArray) (s0_1 : Int) (s0_2 : Bool) : Option (Int × Int × ByteArray × ByteArray × Int × Bool) := (impl_reader_size.f s0_0 s0_1 s0_2 1).bind fun bt359 => (if bt359.1 = 1 then ((impl_reader_size.f bt359.2.1 bt359.2.2.1 bt359.2.2.2 8).bind fun bt364 => (if bt364.2.2.2 = true then (some (bt359.1, bt364.1, (⟨#[]⟩ : ByteArray), bt364.2.1, bt364.2.2.1, true)) else ((impl_ValueOk.f bt359.1 bt364.1 (⟨#[]⟩ : ByteArray)).bind fun t368 => (some (bt359.1, bt364.1, (⟨#[]⟩ : ByteArray), bt364.2.1, bt364.2.2.1, !t368))))) else (if bt359.1 = 2 then ((impl_reader_size.f bt359.2.1 bt359.2.2.1 bt359.2.2.2 1).bind fun bt369 => (if bt369.2.2.2 = true then (some (bt359.1, bt369.1, (⟨#[]⟩ : ByteArray), bt369.2.1, bt369.2.2.1, true)) else ((impl_ValueOk.f bt359.1 bt369.1 (⟨#[]⟩ : ByteArray)).bind fun t373 => (some (bt359.1, bt369.1, (⟨#[]⟩ : ByteArray), bt369.2.1, bt369.2.2.1, !t373))))) else (if bt359.1 = 3 then ((impl_reader_size.f bt359.2.1 bt359.2.2.1 bt359.2.2.2 1).bind fun bt374 => ((impl_reader_take.f bt374.2.1 bt374.2.2.1 bt374.2.2.2 bt374.1).bind fun bt378 => (if bt378.2.2.2 = true then (some (bt359.1, 0, bt378.1, bt378.2.1, bt378.2.2.1, true)) else ((impl_ValueOk.f bt359.1 0 bt378.1).bind fun t382 => (some (bt359.1, 0, bt378.1, bt378.2.1, bt378.2.2.1, !t382)))))) else (if bt359.2.2.2 = true then (some (bt359.1, 0, (⟨#[]⟩ : ByteArray), bt359.2.1, bt359.2.2.1, true)) else ((impl_ValueOk.f bt359.1 0 (⟨#[]⟩ : ByteArray)).bind fun t383 => (some (bt359.1, 0, (⟨#[]⟩ : ByteArray), bt359.2.1, bt359.2.2.1, !t383)))))))
theorem ab13_ {w0 W : World} {g : Nat} {f0 : ByteArray} {f1 : Int} {f2 : Bool} (h : IsS58 w0 W g f0 f1 f2 := by repeat (first | (with_reducible first | exact HI0.out | apply IsS58.alloc | apply IsS58.drewN | apply IsS58.drew | apply IsS58.set_0 | apply IsS58.set_1 | apply IsS58.set_2 | apply IsS58.far (hne := NB0_358.out)) | exact HI0.out)) : IsS58 w0 W g f0 f1 f2 := h
theorem ab14_ {B : Nat} {w W : World} (h : Below B w W := by repeat (first | (with_reducible first | exact HB.out | apply below_alloc | apply pw_below_drewN | apply below_drew1 | refine below_set ?_ (IsS58.ge HI0.out) | refine below_set ?_ GE358.out) | exact HB.out)) : Below B w W := h
theorem ab15_ {w W : World} {g : Nat} (h : KeepBut w W g none := by repeat (first | (with_reducible first | exact HK.out | apply KeepBut.set_ | apply keep_drewN | apply keep_drew | apply keep_alloc | refine keep_far ?_ GW358.out _) | exact HK.out)) : KeepBut w W g none := h
theorem ab16_ {w0 W : World} {g : Nat} {f0 : ByteArray} {f1 : Int} {f2 : Bool} (h : IsS58 w0 W g f0 f1 f2 := by repeat (first | (with_reducible first | exact HI0.out | apply IsS58.alloc | apply IsS58.drewN | apply IsS58.drew | apply IsS58.set_0 | apply IsS58.set_1 | apply IsS58.set_2 | apply IsS58.far (hne := NB0_358.out) | apply IsS58.far (hne := NB0_363.out)) | exact HI0.out)) : IsS58 w0 W g f0 f1 f2 := h
theorem ab17_ {B : Nat} {w W : World} (h : Below B w W := by repeat (first | (with_reducible first | exact HB.out | apply below_alloc | apply pw_below_drewN | apply below_drew1 | refine below_set ?_ (IsS58.ge HI0.out) | refine below_set ?_ GE358.out | refine below_set ?_ GE363.out) | exact HB.out)) : Below B w W := h
theorem ab18_ {w W : World} {g : Nat} (h : KeepBut w W g none := by repeat (first | (with_reducible first | exact HK.out | apply KeepBut.set_ | apply keep_drewN | apply keep_drew | apply keep_alloc | refine keep_far ?_ GW358.out _ | refine keep_far ?_ GW363.out _) | exact HK.out)) : KeepBut w W g none := h
set_option maxHeartbeats 8000000 in
set_option maxRecDepth 100000 in
theorem impl_reader_value.calls (g : Nat) (s0_0 : ByteArray) (s0_1 : Int) (s0_2 : Bool) (r1 : Int) (r2 : Int) (r3 : ByteArray) (r4 : ByteArray) (r5 : Int) (r6 : Bool) (w0 w : World) (hI : IsS58 w0 w g s0_0 s0_1 s0_2) (hB : Below w0.heap.size w0 w) (h : impl_reader_value.f s0_0 s0_1 s0_2 = some (r1, r2, r3, r4, r5, r6)) :
  Calls Tryz.prog 26 #[.pointer (some ⟨g, 0, none⟩)] w fun e w' => e = .returned (.agg #[.int .i64 r1, .int .i64 r2, .string r3]) ∧ IsS58 w0 w' g r4 r5 r6 ∧ Below w0.heap.size w0 w' ∧ KeepBut w w' g none := by
 have hu50 := Tryz.underlying50
 have HI0 := am_ hI
 have HK := am_ (KeepBut.refl w g none)
 have HL := am_ hB.size
 clear hI
 have HW0 := am_ hB.size
 have HB := am_ hB
 clear hB
 have H : ((impl_reader_size.f s0_0 s0_1 s0_2 1).bind fun bt359 => (if bt359.1 = 1 then ((impl_reader_size.f bt359.2.1 bt359.2.2.1 bt359.2.2.2 8).bind fun bt364 => (if bt364.2.2.2 = true then (some (bt359.1, bt364.1, (⟨#[]⟩ : ByteArray), bt364.2.1, bt364.2.2.1, true)) else ((impl_ValueOk.f bt359.1 bt364.1 (⟨#[]⟩ : ByteArray)).bind fun t368 => (some (bt359.1, bt364.1, (⟨#[]⟩ : ByteArray), bt364.2.1, bt364.2.2.1, !t368))))) else (if bt359.1 = 2 then ((impl_reader_size.f bt359.2.1 bt359.2.2.1 bt359.2.2.2 1).bind fun bt369 => (if bt369.2.2.2 = true then (some (bt359.1, bt369.1, (⟨#[]⟩ : ByteArray), bt369.2.1, bt369.2.2.1, true)) else ((impl_ValueOk.f bt359.1 bt369.1 (⟨#[]⟩ : ByteArray)).bind fun t373 => (some (bt359.1, bt369.1, (⟨#[]⟩ : ByteArray), bt369.2.1, bt369.2.2.1, !t373))))) else (if bt359.1 = 3 then ((impl_reader_size.f bt359.2.1 bt359.2.2.1 bt359.2.2.2 1).bind fun bt374 => ((impl_reader_take.f bt374.2.1 bt374.2.2.1 bt374.2.2.2 bt374.1).bind fun bt378 => (if bt378.2.2.2 = true then (some (bt359.1, 0, bt378.1, bt378.2.1, bt378.2.2.1, true)) else ((impl_ValueOk.f bt359.1 0 bt378.1).bind fun t382 => (some (bt359.1, 0, bt378.1, bt378.2.1, bt378.2.2.1, !t382)))))) else (if bt359.2.2.2 = true then (some (bt359.1, 0, (⟨#[]⟩ : ByteArray), bt359.2.1, bt359.2.2.1, true)) else ((impl_ValueOk.f bt359.1 0 (⟨#[]⟩ : ByteArray)).bind fun t383 => (some (bt359.1, 0, (⟨#[]⟩ : ByteArray), bt359.2.1, bt359.2.2.1, !t383)))))))) = some (r1, r2, r3, r4, r5, r6) := h
 clear h
 replace H := bsi_ H
 obtain ⟨⟨t359, t360, t361, t362⟩, A20, H⟩ := H
 try dsimp only at H
 have A2 := am_ A20
 clear A20
 by_cases c3 : t359 = 1
 ·rw [if_pos c3] at H
  have c3b0 : (t359 == 1) = true := beq_iff_eq.mpr c3; have c3b1 : (t359 != 1) = false := bne_eq_false_iff_eq.mpr c3; clear c3; replace H := bsi_ H; obtain ⟨⟨t364, t365, t366, t367⟩, A40, H⟩ := H
  try dsimp only at H
  have A4 := am_ A40; clear A40
  by_cases c5 : t367 = true
  ·subst c5
   rw [if_pos rfl] at H; simp only [Option.some.injEq, Prod.mk.injEq] at H; obtain ⟨rfl, rfl, rfl, rfl, rfl, rfl⟩ := H
   go_enter Tryz.func26, Tryz.ntmps26
   go_wp2_with (first | ((with_reducible refine gate_dst (N := 2) rfl ?_); refine bx_ 2 #[.int .i64 0, .int .i64 0, .string (⟨#[]⟩ : ByteArray)] 50 ?_; intro gb358 hg w6 hbox hb; have n0_ := am_ (IsS58.below ab4_ hb); have n1_ := am_ (KeepBut.trans ab38_ (KeepBut.of_below hb g none) (.inl rfl)); have n2_ := am_ (below_step ab5_ hb); have n3_ := am_ (hbox); have n4_ := am_ ((by rw [hg]; exact (kz_ (g := g) ab38_) : w.heap.size ≤ gb358)); have n5_ := am_ ((Nat.le_trans HW0.out (by rw [hg]; exact (kz_ (g := g) ab38_) : w.heap.size ≤ gb358) : w0.heap.size ≤ gb358)); have n6_ := am_ ((by rw [hg]; exact Nat.ne_of_lt (IsS58.lt (show IsS58 w0 _ g s0_0 s0_1 s0_2 from ab4_)) : g ≠ gb358)); have n7_ := am_ ((by rw [hg]; exact Nat.ne_of_gt (IsS58.lt (show IsS58 w0 _ g s0_0 s0_1 s0_2 from ab4_)) : gb358 ≠ g)); clear HI0; clear HK; clear HB; have HI0 := n0_; have HK := n1_; have HB := n2_; have BK358 := n3_; have GW358 := n4_; have GE358 := n5_; have NB0_358 := n6_; have NB358_0 := n7_; clear n0_ n1_ n2_ n3_ n4_ n5_ n6_ n7_; clear hb hbox hg) | ((with_reducible refine gate_callee (f := 25) rfl ?_); refine gsL_ (some 5) Tryz.func25 #[.pointer (some ⟨g, 0, none⟩), .int .i64 1] ?_; (with_reducible refine (impl_reader_size.calls g s0_0 s0_1 s0_2 1 t359 t360 t361 t362 w0 _ ?side1 ?side2 A2.out).mono ?_); (case side1 => exact ab13_); (case side2 => exact ab14_); rintro e w7 ⟨rfl, hi, hb, hk⟩; refine ⟨_, rfl, ?_⟩; replace BK358 := am_ (KeepBut.blk hk (g' := gb358) (o := .cells #[.int .i64 0, .int .i64 0, .string (⟨#[]⟩ : ByteArray)] 50 (0, 0)) (bkx_ BK358.out) NB358_0.out (by simp)); replace HK := am_ (KeepBut.trans ab15_ hk (.inl rfl)); replace HI0 := am_ (hi); replace HB := am_ (hb); (try clear hb)) | ((with_reducible refine gate_dst (N := 3) rfl ?_); refine bx_ 3 #[.int .i64 0, .int .i64 0, .string (⟨#[]⟩ : ByteArray)] 50 ?_; intro gb363 hg w8 hbox hb; have n0_ := am_ (IsS58.below ab13_ hb); have n1_ := bkb_ BK358 hb; have n2_ := am_ (KeepBut.trans ab15_ (KeepBut.of_below hb g none) (.inl rfl)); have n3_ := am_ (below_step ab14_ hb); have n4_ := am_ (hbox); have n5_ := am_ ((by rw [hg]; exact (kz_ (g := g) ab15_) : w.heap.size ≤ gb363)); have n6_ := am_ ((Nat.le_trans HW0.out (by rw [hg]; exact (kz_ (g := g) ab15_) : w.heap.size ≤ gb363) : w0.heap.size ≤ gb363)); have n7_ := nl_ hg BK358; have n8_ := ng_ hg BK358; have n9_ := am_ ((by rw [hg]; exact Nat.ne_of_lt (IsS58.lt (show IsS58 w0 _ g t360 t361 t362 from ab13_)) : g ≠ gb363)); have n10_ := am_ ((by rw [hg]; exact Nat.ne_of_gt (IsS58.lt (show IsS58 w0 _ g t360 t361 t362 from ab13_)) : gb363 ≠ g)); clear HI0; clear BK358; clear HK; clear HB; have HI0 := n0_; have BK358 := n1_; have HK := n2_; have HB := n3_; have BK363 := n4_; have GW363 := n5_; have GE363 := n6_; have NB358_363 := n7_; have NB363_358 := n8_; have NB0_363 := n9_; have NB363_0 := n10_; clear n0_ n1_ n2_ n3_ n4_ n5_ n6_ n7_ n8_ n9_ n10_; clear hb hbox hg; have hnb9 := NB363_358.out; have hnc9 := NB358_363.out; have hnb10 := NB363_0.out; have hnc10 := NB0_363.out; obtain ⟨hcz11_0, hcz11_1, hcz11_2, hfz11_0, hfz11_1, hfz11_2⟩ := b3_ BK363) | ((with_reducible refine gate_callee (f := 25) rfl ?_); refine gsL_ (some 12) Tryz.func25 #[.pointer (some ⟨g, 0, none⟩), .int .i64 8] ?_; (with_reducible refine (impl_reader_size.calls g t360 t361 t362 8 t364 t365 t366 true w0 _ ?side1 ?side2 A4.out).mono ?_); (case side1 => exact ab16_); (case side2 => exact ab17_); rintro e w12 ⟨rfl, hi, hb, hk⟩; refine ⟨_, rfl, ?_⟩; replace BK358 := am_ (KeepBut.blk hk (g' := gb358) (o := .cells #[.int .i64 0, .int .i64 0, .string (⟨#[]⟩ : ByteArray)] 50 (0, 0)) (bf3_ NB358_363 (bkx_ BK358.out)) NB358_0.out (by simp)); replace BK363 := am_ (KeepBut.blk hk (g' := gb363) (o := .cells #[.int .i64 t359, .int .i64 0, .string (⟨#[]⟩ : ByteArray)] 50 (0, 0)) (bp3_ (bkx_ BK363.out)) NB363_0.out (by simp)); replace HK := am_ (KeepBut.trans ab18_ hk (.inl rfl)); replace HI0 := am_ (hi); replace HB := am_ (hb); (try clear hb); obtain ⟨hcz13_0, hcz13_1, hcz13_2, hfz13_0, hfz13_1, hfz13_2⟩ := b3_ BK363; obtain ⟨HGz14, hgz14⟩ := HI0.out; have hcz14_0 := cellS58_0 HGz14; have hcz14_1 := cellS58_1 HGz14; have hcz14_2 := cellS58_2 HGz14; have hfz14_0 := blk_frozen HGz14 0; have hfz14_1 := blk_frozen HGz14 1; have hfz14_2 := blk_frozen HGz14 2; clear HGz14 hgz14; have hnb15 := NB358_0.out; have hnc15 := NB0_358.out; obtain ⟨hcz16_0, hcz16_1, hcz16_2, hfz16_0, hfz16_1, hfz16_2⟩ := b3_ BK358))
   (refine bodyPost_ret (results_cell_row rfl _ _ gb358 50 #[.int .i64 t359, .int .i64 t364, .string (⟨#[]⟩ : ByteArray)] (0, 0) _ rfl (by (with_reducible repeat (first | refine blk_drewN ?_ _ | refine blk_drew ?_ | refine blk_alloc ?_ _)); refine blk_put (cs := #[.int .i64 t359, .int .i64 t364, .string (⟨#[]⟩ : ByteArray)]) ?_ 2 _ rfl; (with_reducible repeat (first | refine blk_drewN ?_ _ | refine blk_drew ?_ | refine blk_alloc ?_ _)); refine blk_put (cs := #[.int .i64 t359, .int .i64 0, .string (⟨#[]⟩ : ByteArray)]) ?_ 1 _ rfl; (with_reducible repeat (first | refine blk_drewN ?_ _ | refine blk_drew ?_ | refine blk_alloc ?_ _)); refine blk_put (cs := #[.int .i64 0, .int .i64 0, .string (⟨#[]⟩ : ByteArray)]) ?_ 0 _ rfl; (with_reducible repeat (first | refine blk_drewN ?_ _ | refine blk_drew ?_ | refine blk_alloc ?_ _)); refine blk_far ?_ NB358_0.out _; (with_reducible repeat (first | refine blk_drewN ?_ _ | refine blk_drew ?_ | refine blk_alloc ?_ _)); refine blk_far ?_ NB358_363.out _; (with_reducible repeat (first | refine blk_drewN ?_ _ | refine blk_drew ?_ | refine blk_alloc ?_ _)); exact BK358.out) Tryz.underlying50 rfl (by kernel_rfl)) rfl ?_); (exact ⟨rr_, ab16_, ab17_, ab18_⟩)
  ·replace c5 := Bool.eq_false_iff.mpr c5
   subst c5; (rw [if_neg (show ¬ (false = true) by decide)] at H); replace H := bsi_ H; obtain ⟨t368, A170, H⟩ := H
   try dsimp only at H
   have A17 := am_ A170; clear A170; simp only [Option.some.injEq, Prod.mk.injEq] at H; obtain ⟨rfl, rfl, rfl, rfl, rfl, rfl⟩ := H
   go_enter Tryz.func26, Tryz.ntmps26
   go_wp2_with (first | ((with_reducible refine gate_dst (N := 2) rfl ?_); refine bx_ 2 #[.int .i64 0, .int .i64 0, .string (⟨#[]⟩ : ByteArray)] 50 ?_; intro gb358 hg w18 hbox hb; have n0_ := am_ (IsS58.below ab4_ hb); have n1_ := am_ (KeepBut.trans ab38_ (KeepBut.of_below hb g none) (.inl rfl)); have n2_ := am_ (below_step ab5_ hb); have n3_ := am_ (hbox); have n4_ := am_ ((by rw [hg]; exact (kz_ (g := g) ab38_) : w.heap.size ≤ gb358)); have n5_ := am_ ((Nat.le_trans HW0.out (by rw [hg]; exact (kz_ (g := g) ab38_) : w.heap.size ≤ gb358) : w0.heap.size ≤ gb358)); have n6_ := am_ ((by rw [hg]; exact Nat.ne_of_lt (IsS58.lt (show IsS58 w0 _ g s0_0 s0_1 s0_2 from ab4_)) : g ≠ gb358)); have n7_ := am_ ((by rw [hg]; exact Nat.ne_of_gt (IsS58.lt (show IsS58 w0 _ g s0_0 s0_1 s0_2 from ab4_)) : gb358 ≠ g)); clear HI0; clear HK; clear HB; have HI0 := n0_; have HK := n1_; have HB := n2_; have BK358 := n3_; have GW358 := n4_; have GE358 := n5_; have NB0_358 := n6_; have NB358_0 := n7_; clear n0_ n1_ n2_ n3_ n4_ n5_ n6_ n7_; clear hb hbox hg) | ((with_reducible refine gate_callee (f := 25) rfl ?_); refine gsL_ (some 5) Tryz.func25 #[.pointer (some ⟨g, 0, none⟩), .int .i64 1] ?_; (with_reducible refine (impl_reader_size.calls g s0_0 s0_1 s0_2 1 t359 t360 t361 t362 w0 _ ?side1 ?side2 A2.out).mono ?_); (case side1 => exact ab13_); (case side2 => exact ab14_); rintro e w19 ⟨rfl, hi, hb, hk⟩; refine ⟨_, rfl, ?_⟩; replace BK358 := am_ (KeepBut.blk hk (g' := gb358) (o := .cells #[.int .i64 0, .int .i64 0, .string (⟨#[]⟩ : ByteArray)] 50 (0, 0)) (bkx_ BK358.out) NB358_0.out (by simp)); replace HK := am_ (KeepBut.trans ab15_ hk (.inl rfl)); replace HI0 := am_ (hi); replace HB := am_ (hb); (try clear hb)) | ((with_reducible refine gate_dst (N := 3) rfl ?_); refine bx_ 3 #[.int .i64 0, .int .i64 0, .string (⟨#[]⟩ : ByteArray)] 50 ?_; intro gb363 hg w20 hbox hb; have n0_ := am_ (IsS58.below ab13_ hb); have n1_ := bkb_ BK358 hb; have n2_ := am_ (KeepBut.trans ab15_ (KeepBut.of_below hb g none) (.inl rfl)); have n3_ := am_ (below_step ab14_ hb); have n4_ := am_ (hbox); have n5_ := am_ ((by rw [hg]; exact (kz_ (g := g) ab15_) : w.heap.size ≤ gb363)); have n6_ := am_ ((Nat.le_trans HW0.out (by rw [hg]; exact (kz_ (g := g) ab15_) : w.heap.size ≤ gb363) : w0.heap.size ≤ gb363)); have n7_ := nl_ hg BK358; have n8_ := ng_ hg BK358; have n9_ := am_ ((by rw [hg]; exact Nat.ne_of_lt (IsS58.lt (show IsS58 w0 _ g t360 t361 t362 from ab13_)) : g ≠ gb363)); have n10_ := am_ ((by rw [hg]; exact Nat.ne_of_gt (IsS58.lt (show IsS58 w0 _ g t360 t361 t362 from ab13_)) : gb363 ≠ g)); clear HI0; clear BK358; clear HK; clear HB; have HI0 := n0_; have BK358 := n1_; have HK := n2_; have HB := n3_; have BK363 := n4_; have GW363 := n5_; have GE363 := n6_; have NB358_363 := n7_; have NB363_358 := n8_; have NB0_363 := n9_; have NB363_0 := n10_; clear n0_ n1_ n2_ n3_ n4_ n5_ n6_ n7_ n8_ n9_ n10_; clear hb hbox hg; have hnb21 := NB363_358.out; have hnc21 := NB358_363.out; have hnb22 := NB363_0.out; have hnc22 := NB0_363.out; obtain ⟨hcz23_0, hcz23_1, hcz23_2, hfz23_0, hfz23_1, hfz23_2⟩ := b3_ BK363) | ((with_reducible refine gate_callee (f := 25) rfl ?_); refine gsL_ (some 12) Tryz.func25 #[.pointer (some ⟨g, 0, none⟩), .int .i64 8] ?_; (with_reducible refine (impl_reader_size.calls g t360 t361 t362 8 t364 t365 t366 false w0 _ ?side1 ?side2 A4.out).mono ?_); (case side1 => exact ab16_); (case side2 => exact ab17_); rintro e w24 ⟨rfl, hi, hb, hk⟩; refine ⟨_, rfl, ?_⟩; replace BK358 := am_ (KeepBut.blk hk (g' := gb358) (o := .cells #[.int .i64 0, .int .i64 0, .string (⟨#[]⟩ : ByteArray)] 50 (0, 0)) (bf3_ NB358_363 (bkx_ BK358.out)) NB358_0.out (by simp)); replace BK363 := am_ (KeepBut.blk hk (g' := gb363) (o := .cells #[.int .i64 t359, .int .i64 0, .string (⟨#[]⟩ : ByteArray)] 50 (0, 0)) (bp3_ (bkx_ BK363.out)) NB363_0.out (by simp)); replace HK := am_ (KeepBut.trans ab18_ hk (.inl rfl)); replace HI0 := am_ (hi); replace HB := am_ (hb); (try clear hb); obtain ⟨hcz25_0, hcz25_1, hcz25_2, hfz25_0, hfz25_1, hfz25_2⟩ := b3_ BK363; obtain ⟨HGz26, hgz26⟩ := HI0.out; have hcz26_0 := cellS58_0 HGz26; have hcz26_1 := cellS58_1 HGz26; have hcz26_2 := cellS58_2 HGz26; have hfz26_0 := blk_frozen HGz26 0; have hfz26_1 := blk_frozen HGz26 1; have hfz26_2 := blk_frozen HGz26 2; clear HGz26 hgz26) | (go_at_call 46; (with_reducible refine (impl_ValueOk.calls t359 t364 (⟨#[]⟩ : ByteArray) t368 _ A17.out).mono ?_); rintro e w27 ⟨rfl, hb⟩; have n0_ := am_ (IsS58.below (show IsS58 w0 (w24.setCell ⟨gb363, 1, none⟩ (.int .i64 t364)) g t365 t366 false from ab16_) hb); have n1_ := am_ (blk_below (g := gb358) (o := .cells #[.int .i64 0, .int .i64 0, .string (⟨#[]⟩ : ByteArray)] 50 (0, 0)) (bf1_ NB358_363 (bkx_ BK358.out)) hb); have n2_ := am_ (blk_below (g := gb363) (o := .cells #[.int .i64 t359, .int .i64 t364, .string (⟨#[]⟩ : ByteArray)] 50 (0, 0)) (by (with_reducible repeat (first | refine blk_drewN ?_ _ | refine blk_drew ?_ | refine blk_alloc ?_ _)); refine blk_put (cs := #[.int .i64 t359, .int .i64 0, .string (⟨#[]⟩ : ByteArray)]) ?_ 1 _ rfl; (with_reducible repeat (first | refine blk_drewN ?_ _ | refine blk_drew ?_ | refine blk_alloc ?_ _)); exact BK363.out) hb); have n3_ := am_ (KeepBut.trans ab18_ (KeepBut.of_below hb g none) (.inl rfl)); have n4_ := am_ (below_step ab17_ hb); clear HI0; clear BK358; clear BK363; clear HK; clear HB; have HI0 := n0_; have BK358 := n1_; have BK363 := n2_; have HK := n3_; have HB := n4_; clear n0_ n1_ n2_ n3_ n4_; (try clear hb); obtain ⟨HGz28, hgz28⟩ := HI0.out; have hcz28_0 := cellS58_0 HGz28; have hcz28_1 := cellS58_1 HGz28; have hcz28_2 := cellS58_2 HGz28; have hfz28_0 := blk_frozen HGz28 0; have hfz28_1 := blk_frozen HGz28 1; have hfz28_2 := blk_frozen HGz28 2; clear HGz28 hgz28; obtain ⟨hcz29_0, hcz29_1, hcz29_2, hfz29_0, hfz29_1, hfz29_2⟩ := b3_ BK363; have hnb30 := NB358_0.out; have hnc30 := NB0_358.out; obtain ⟨hcz31_0, hcz31_1, hcz31_2, hfz31_0, hfz31_1, hfz31_2⟩ := b3_ BK358))
   (refine bodyPost_ret (results_cell_row rfl _ _ gb358 50 #[.int .i64 t359, .int .i64 t364, .string (⟨#[]⟩ : ByteArray)] (0, 0) _ rfl (by (with_reducible repeat (first | refine blk_drewN ?_ _ | refine blk_drew ?_ | refine blk_alloc ?_ _)); refine blk_put (cs := #[.int .i64 t359, .int .i64 t364, .string (⟨#[]⟩ : ByteArray)]) ?_ 2 _ rfl; (with_reducible repeat (first | refine blk_drewN ?_ _ | refine blk_drew ?_ | refine blk_alloc ?_ _)); refine blk_put (cs := #[.int .i64 t359, .int .i64 0, .string (⟨#[]⟩ : ByteArray)]) ?_ 1 _ rfl; (with_reducible repeat (first | refine blk_drewN ?_ _ | refine blk_drew ?_ | refine blk_alloc ?_ _)); refine blk_put (cs := #[.int .i64 0, .int .i64 0, .string (⟨#[]⟩ : ByteArray)]) ?_ 0 _ rfl; (with_reducible repeat (first | refine blk_drewN ?_ _ | refine blk_drew ?_ | refine blk_alloc ?_ _)); refine blk_far ?_ NB358_0.out _; (with_reducible repeat (first | refine blk_drewN ?_ _ | refine blk_drew ?_ | refine blk_alloc ?_ _)); exact BK358.out) Tryz.underlying50 rfl (by kernel_rfl)) rfl ?_); (exact ⟨rr_, ab16_, ab17_, ab18_⟩)
 ·rw [if_neg c3] at H
  have c3b0 : (t359 == 1) = false := beq_eq_false_iff_ne.mpr c3; have c3b1 : (t359 != 1) = true := bne_iff_ne.mpr c3
  by_cases c32 : t359 = 2
  ·rw [if_pos c32] at H
   have c32b0 : (t359 == 2) = true := beq_iff_eq.mpr c32; have c32b1 : (t359 != 2) = false := bne_eq_false_iff_eq.mpr c32; clear c32; replace H := bsi_ H; obtain ⟨⟨t369, t370, t371, t372⟩, A330, H⟩ := H
   try dsimp only at H
   have A33 := am_ A330; clear A330
   by_cases c34 : t372 = true
   ·subst c34
    rw [if_pos rfl] at H; simp only [Option.some.injEq, Prod.mk.injEq] at H; obtain ⟨rfl, rfl, rfl, rfl, rfl, rfl⟩ := H
    go_enter Tryz.func26, Tryz.ntmps26
    go_wp2_with (first | ((with_reducible refine gate_dst (N := 2) rfl ?_); refine bx_ 2 #[.int .i64 0, .int .i64 0, .string (⟨#[]⟩ : ByteArray)] 50 ?_; intro gb358 hg w35 hbox hb; have n0_ := am_ (IsS58.below ab4_ hb); have n1_ := am_ (KeepBut.trans ab38_ (KeepBut.of_below hb g none) (.inl rfl)); have n2_ := am_ (below_step ab5_ hb); have n3_ := am_ (hbox); have n4_ := am_ ((by rw [hg]; exact (kz_ (g := g) ab38_) : w.heap.size ≤ gb358)); have n5_ := am_ ((Nat.le_trans HW0.out (by rw [hg]; exact (kz_ (g := g) ab38_) : w.heap.size ≤ gb358) : w0.heap.size ≤ gb358)); have n6_ := am_ ((by rw [hg]; exact Nat.ne_of_lt (IsS58.lt (show IsS58 w0 _ g s0_0 s0_1 s0_2 from ab4_)) : g ≠ gb358)); have n7_ := am_ ((by rw [hg]; exact Nat.ne_of_gt (IsS58.lt (show IsS58 w0 _ g s0_0 s0_1 s0_2 from ab4_)) : gb358 ≠ g)); clear HI0; clear HK; clear HB; have HI0 := n0_; have HK := n1_; have HB := n2_; have BK358 := n3_; have GW358 := n4_; have GE358 := n5_; have NB0_358 := n6_; have NB358_0 := n7_; clear n0_ n1_ n2_ n3_ n4_ n5_ n6_ n7_; clear hb hbox hg) | ((with_reducible refine gate_callee (f := 25) rfl ?_); refine gsL_ (some 5) Tryz.func25 #[.pointer (some ⟨g, 0, none⟩), .int .i64 1] ?_; (with_reducible refine (impl_reader_size.calls g s0_0 s0_1 s0_2 1 t359 t360 t361 t362 w0 _ ?side1 ?side2 A2.out).mono ?_); (case side1 => exact ab13_); (case side2 => exact ab14_); rintro e w36 ⟨rfl, hi, hb, hk⟩; refine ⟨_, rfl, ?_⟩; replace BK358 := am_ (KeepBut.blk hk (g' := gb358) (o := .cells #[.int .i64 0, .int .i64 0, .string (⟨#[]⟩ : ByteArray)] 50 (0, 0)) (bkx_ BK358.out) NB358_0.out (by simp)); replace HK := am_ (KeepBut.trans ab15_ hk (.inl rfl)); replace HI0 := am_ (hi); replace HB := am_ (hb); (try clear hb)) | ((with_reducible refine gate_dst (N := 3) rfl ?_); refine bx_ 3 #[.int .i64 0, .int .i64 0, .string (⟨#[]⟩ : ByteArray)] 50 ?_; intro gb363 hg w37 hbox hb; have n0_ := am_ (IsS58.below ab13_ hb); have n1_ := bkb_ BK358 hb; have n2_ := am_ (KeepBut.trans ab15_ (KeepBut.of_below hb g none) (.inl rfl)); have n3_ := am_ (below_step ab14_ hb); have n4_ := am_ (hbox); have n5_ := am_ ((by rw [hg]; exact (kz_ (g := g) ab15_) : w.heap.size ≤ gb363)); have n6_ := am_ ((Nat.le_trans HW0.out (by rw [hg]; exact (kz_ (g := g) ab15_) : w.heap.size ≤ gb363) : w0.heap.size ≤ gb363)); have n7_ := nl_ hg BK358; have n8_ := ng_ hg BK358; have n9_ := am_ ((by rw [hg]; exact Nat.ne_of_lt (IsS58.lt (show IsS58 w0 _ g t360 t361 t362 from ab13_)) : g ≠ gb363)); have n10_ := am_ ((by rw [hg]; exact Nat.ne_of_gt (IsS58.lt (show IsS58 w0 _ g t360 t361 t362 from ab13_)) : gb363 ≠ g)); clear HI0; clear BK358; clear HK; clear HB; have HI0 := n0_; have BK358 := n1_; have HK := n2_; have HB := n3_; have BK363 := n4_; have GW363 := n5_; have GE363 := n6_; have NB358_363 := n7_; have NB363_358 := n8_; have NB0_363 := n9_; have NB363_0 := n10_; clear n0_ n1_ n2_ n3_ n4_ n5_ n6_ n7_ n8_ n9_ n10_; clear hb hbox hg; have hnb38 := NB363_358.out; have hnc38 := NB358_363.out; have hnb39 := NB363_0.out; have hnc39 := NB0_363.out; obtain ⟨hcz40_0, hcz40_1, hcz40_2, hfz40_0, hfz40_1, hfz40_2⟩ := b3_ BK363) | ((with_reducible refine gate_callee (f := 25) rfl ?_); refine gsL_ (some 17) Tryz.func25 #[.pointer (some ⟨g, 0, none⟩), .int .i64 1] ?_; (with_reducible refine (impl_reader_size.calls g t360 t361 t362 1 t369 t370 t371 true w0 _ ?side1 ?side2 A33.out).mono ?_); (case side1 => exact ab16_); (case side2 => exact ab17_); rintro e w41 ⟨rfl, hi, hb, hk⟩; refine ⟨_, rfl, ?_⟩; replace BK358 := am_ (KeepBut.blk hk (g' := gb358) (o := .cells #[.int .i64 0, .int .i64 0, .string (⟨#[]⟩ : ByteArray)] 50 (0, 0)) (bf3_ NB358_363 (bkx_ BK358.out)) NB358_0.out (by simp)); replace BK363 := am_ (KeepBut.blk hk (g' := gb363) (o := .cells #[.int .i64 t359, .int .i64 0, .string (⟨#[]⟩ : ByteArray)] 50 (0, 0)) (bp3_ (bkx_ BK363.out)) NB363_0.out (by simp)); replace HK := am_ (KeepBut.trans ab18_ hk (.inl rfl)); replace HI0 := am_ (hi); replace HB := am_ (hb); (try clear hb); obtain ⟨hcz42_0, hcz42_1, hcz42_2, hfz42_0, hfz42_1, hfz42_2⟩ := b3_ BK363; obtain ⟨HGz43, hgz43⟩ := HI0.out; have hcz43_0 := cellS58_0 HGz43; have hcz43_1 := cellS58_1 HGz43; have hcz43_2 := cellS58_2 HGz43; have hfz43_0 := blk_frozen HGz43 0; have hfz43_1 := blk_frozen HGz43 1; have hfz43_2 := blk_frozen HGz43 2; clear HGz43 hgz43; have hnb44 := NB358_0.out; have hnc44 := NB0_358.out; obtain ⟨hcz45_0, hcz45_1, hcz45_2, hfz45_0, hfz45_1, hfz45_2⟩ := b3_ BK358))
    (refine bodyPost_ret (results_cell_row rfl _ _ gb358 50 #[.int .i64 t359, .int .i64 t369, .string (⟨#[]⟩ : ByteArray)] (0, 0) _ rfl (by (with_reducible repeat (first | refine blk_drewN ?_ _ | refine blk_drew ?_ | refine blk_alloc ?_ _)); refine blk_put (cs := #[.int .i64 t359, .int .i64 t369, .string (⟨#[]⟩ : ByteArray)]) ?_ 2 _ rfl; (with_reducible repeat (first | refine blk_drewN ?_ _ | refine blk_drew ?_ | refine blk_alloc ?_ _)); refine blk_put (cs := #[.int .i64 t359, .int .i64 0, .string (⟨#[]⟩ : ByteArray)]) ?_ 1 _ rfl; (with_reducible repeat (first | refine blk_drewN ?_ _ | refine blk_drew ?_ | refine blk_alloc ?_ _)); refine blk_put (cs := #[.int .i64 0, .int .i64 0, .string (⟨#[]⟩ : ByteArray)]) ?_ 0 _ rfl; (with_reducible repeat (first | refine blk_drewN ?_ _ | refine blk_drew ?_ | refine blk_alloc ?_ _)); refine blk_far ?_ NB358_0.out _; (with_reducible repeat (first | refine blk_drewN ?_ _ | refine blk_drew ?_ | refine blk_alloc ?_ _)); refine blk_far ?_ NB358_363.out _; (with_reducible repeat (first | refine blk_drewN ?_ _ | refine blk_drew ?_ | refine blk_alloc ?_ _)); exact BK358.out) Tryz.underlying50 rfl (by kernel_rfl)) rfl ?_); (exact ⟨rr_, ab16_, ab17_, ab18_⟩)
   ·replace c34 := Bool.eq_false_iff.mpr c34
    subst c34; (rw [if_neg (show ¬ (false = true) by decide)] at H); replace H := bsi_ H; obtain ⟨t373, A460, H⟩ := H
    try dsimp only at H
    have A46 := am_ A460; clear A460; simp only [Option.some.injEq, Prod.mk.injEq] at H; obtain ⟨rfl, rfl, rfl, rfl, rfl, rfl⟩ := H
    go_enter Tryz.func26, Tryz.ntmps26
    go_wp2_with (first | ((with_reducible refine gate_dst (N := 2) rfl ?_); refine bx_ 2 #[.int .i64 0, .int .i64 0, .string (⟨#[]⟩ : ByteArray)] 50 ?_; intro gb358 hg w47 hbox hb; have n0_ := am_ (IsS58.below ab4_ hb); have n1_ := am_ (KeepBut.trans ab38_ (KeepBut.of_below hb g none) (.inl rfl)); have n2_ := am_ (below_step ab5_ hb); have n3_ := am_ (hbox); have n4_ := am_ ((by rw [hg]; exact (kz_ (g := g) ab38_) : w.heap.size ≤ gb358)); have n5_ := am_ ((Nat.le_trans HW0.out (by rw [hg]; exact (kz_ (g := g) ab38_) : w.heap.size ≤ gb358) : w0.heap.size ≤ gb358)); have n6_ := am_ ((by rw [hg]; exact Nat.ne_of_lt (IsS58.lt (show IsS58 w0 _ g s0_0 s0_1 s0_2 from ab4_)) : g ≠ gb358)); have n7_ := am_ ((by rw [hg]; exact Nat.ne_of_gt (IsS58.lt (show IsS58 w0 _ g s0_0 s0_1 s0_2 from ab4_)) : gb358 ≠ g)); clear HI0; clear HK; clear HB; have HI0 := n0_; have HK := n1_; have HB := n2_; have BK358 := n3_; have GW358 := n4_; have GE358 := n5_; have NB0_358 := n6_; have NB358_0 := n7_; clear n0_ n1_ n2_ n3_ n4_ n5_ n6_ n7_; clear hb hbox hg) | ((with_reducible refine gate_callee (f := 25) rfl ?_); refine gsL_ (some 5) Tryz.func25 #[.pointer (some ⟨g, 0, none⟩), .int .i64 1] ?_; (with_reducible refine (impl_reader_size.calls g s0_0 s0_1 s0_2 1 t359 t360 t361 t362 w0 _ ?side1 ?side2 A2.out).mono ?_); (case side1 => exact ab13_); (case side2 => exact ab14_); rintro e w48 ⟨rfl, hi, hb, hk⟩; refine ⟨_, rfl, ?_⟩; replace BK358 := am_ (KeepBut.blk hk (g' := gb358) (o := .cells #[.int .i64 0, .int .i64 0, .string (⟨#[]⟩ : ByteArray)] 50 (0, 0)) (bkx_ BK358.out) NB358_0.out (by simp)); replace HK := am_ (KeepBut.trans ab15_ hk (.inl rfl)); replace HI0 := am_ (hi); replace HB := am_ (hb); (try clear hb)) | ((with_reducible refine gate_dst (N := 3) rfl ?_); refine bx_ 3 #[.int .i64 0, .int .i64 0, .string (⟨#[]⟩ : ByteArray)] 50 ?_; intro gb363 hg w49 hbox hb; have n0_ := am_ (IsS58.below ab13_ hb); have n1_ := bkb_ BK358 hb; have n2_ := am_ (KeepBut.trans ab15_ (KeepBut.of_below hb g none) (.inl rfl)); have n3_ := am_ (below_step ab14_ hb); have n4_ := am_ (hbox); have n5_ := am_ ((by rw [hg]; exact (kz_ (g := g) ab15_) : w.heap.size ≤ gb363)); have n6_ := am_ ((Nat.le_trans HW0.out (by rw [hg]; exact (kz_ (g := g) ab15_) : w.heap.size ≤ gb363) : w0.heap.size ≤ gb363)); have n7_ := nl_ hg BK358; have n8_ := ng_ hg BK358; have n9_ := am_ ((by rw [hg]; exact Nat.ne_of_lt (IsS58.lt (show IsS58 w0 _ g t360 t361 t362 from ab13_)) : g ≠ gb363)); have n10_ := am_ ((by rw [hg]; exact Nat.ne_of_gt (IsS58.lt (show IsS58 w0 _ g t360 t361 t362 from ab13_)) : gb363 ≠ g)); clear HI0; clear BK358; clear HK; clear HB; have HI0 := n0_; have BK358 := n1_; have HK := n2_; have HB := n3_; have BK363 := n4_; have GW363 := n5_; have GE363 := n6_; have NB358_363 := n7_; have NB363_358 := n8_; have NB0_363 := n9_; have NB363_0 := n10_; clear n0_ n1_ n2_ n3_ n4_ n5_ n6_ n7_ n8_ n9_ n10_; clear hb hbox hg; have hnb50 := NB363_358.out; have hnc50 := NB358_363.out; have hnb51 := NB363_0.out; have hnc51 := NB0_363.out; obtain ⟨hcz52_0, hcz52_1, hcz52_2, hfz52_0, hfz52_1, hfz52_2⟩ := b3_ BK363) | ((with_reducible refine gate_callee (f := 25) rfl ?_); refine gsL_ (some 17) Tryz.func25 #[.pointer (some ⟨g, 0, none⟩), .int .i64 1] ?_; (with_reducible refine (impl_reader_size.calls g t360 t361 t362 1 t369 t370 t371 false w0 _ ?side1 ?side2 A33.out).mono ?_); (case side1 => exact ab16_); (case side2 => exact ab17_); rintro e w53 ⟨rfl, hi, hb, hk⟩; refine ⟨_, rfl, ?_⟩; replace BK358 := am_ (KeepBut.blk hk (g' := gb358) (o := .cells #[.int .i64 0, .int .i64 0, .string (⟨#[]⟩ : ByteArray)] 50 (0, 0)) (bf3_ NB358_363 (bkx_ BK358.out)) NB358_0.out (by simp)); replace BK363 := am_ (KeepBut.blk hk (g' := gb363) (o := .cells #[.int .i64 t359, .int .i64 0, .string (⟨#[]⟩ : ByteArray)] 50 (0, 0)) (bp3_ (bkx_ BK363.out)) NB363_0.out (by simp)); replace HK := am_ (KeepBut.trans ab18_ hk (.inl rfl)); replace HI0 := am_ (hi); replace HB := am_ (hb); (try clear hb); obtain ⟨hcz54_0, hcz54_1, hcz54_2, hfz54_0, hfz54_1, hfz54_2⟩ := b3_ BK363; obtain ⟨HGz55, hgz55⟩ := HI0.out; have hcz55_0 := cellS58_0 HGz55; have hcz55_1 := cellS58_1 HGz55; have hcz55_2 := cellS58_2 HGz55; have hfz55_0 := blk_frozen HGz55 0; have hfz55_1 := blk_frozen HGz55 1; have hfz55_2 := blk_frozen HGz55 2; clear HGz55 hgz55) | (go_at_call 46; (with_reducible refine (impl_ValueOk.calls t359 t369 (⟨#[]⟩ : ByteArray) t373 _ A46.out).mono ?_); rintro e w56 ⟨rfl, hb⟩; have n0_ := am_ (IsS58.below (show IsS58 w0 (w53.setCell ⟨gb363, 1, none⟩ (.int .i64 t369)) g t370 t371 false from ab16_) hb); have n1_ := am_ (blk_below (g := gb358) (o := .cells #[.int .i64 0, .int .i64 0, .string (⟨#[]⟩ : ByteArray)] 50 (0, 0)) (bf1_ NB358_363 (bkx_ BK358.out)) hb); have n2_ := am_ (blk_below (g := gb363) (o := .cells #[.int .i64 t359, .int .i64 t369, .string (⟨#[]⟩ : ByteArray)] 50 (0, 0)) (by (with_reducible repeat (first | refine blk_drewN ?_ _ | refine blk_drew ?_ | refine blk_alloc ?_ _)); refine blk_put (cs := #[.int .i64 t359, .int .i64 0, .string (⟨#[]⟩ : ByteArray)]) ?_ 1 _ rfl; (with_reducible repeat (first | refine blk_drewN ?_ _ | refine blk_drew ?_ | refine blk_alloc ?_ _)); exact BK363.out) hb); have n3_ := am_ (KeepBut.trans ab18_ (KeepBut.of_below hb g none) (.inl rfl)); have n4_ := am_ (below_step ab17_ hb); clear HI0; clear BK358; clear BK363; clear HK; clear HB; have HI0 := n0_; have BK358 := n1_; have BK363 := n2_; have HK := n3_; have HB := n4_; clear n0_ n1_ n2_ n3_ n4_; (try clear hb); obtain ⟨HGz57, hgz57⟩ := HI0.out; have hcz57_0 := cellS58_0 HGz57; have hcz57_1 := cellS58_1 HGz57; have hcz57_2 := cellS58_2 HGz57; have hfz57_0 := blk_frozen HGz57 0; have hfz57_1 := blk_frozen HGz57 1; have hfz57_2 := blk_frozen HGz57 2; clear HGz57 hgz57; obtain ⟨hcz58_0, hcz58_1, hcz58_2, hfz58_0, hfz58_1, hfz58_2⟩ := b3_ BK363; have hnb59 := NB358_0.out; have hnc59 := NB0_358.out; obtain ⟨hcz60_0, hcz60_1, hcz60_2, hfz60_0, hfz60_1, hfz60_2⟩ := b3_ BK358))
    (refine bodyPost_ret (results_cell_row rfl _ _ gb358 50 #[.int .i64 t359, .int .i64 t369, .string (⟨#[]⟩ : ByteArray)] (0, 0) _ rfl (by (with_reducible repeat (first | refine blk_drewN ?_ _ | refine blk_drew ?_ | refine blk_alloc ?_ _)); refine blk_put (cs := #[.int .i64 t359, .int .i64 t369, .string (⟨#[]⟩ : ByteArray)]) ?_ 2 _ rfl; (with_reducible repeat (first | refine blk_drewN ?_ _ | refine blk_drew ?_ | refine blk_alloc ?_ _)); refine blk_put (cs := #[.int .i64 t359, .int .i64 0, .string (⟨#[]⟩ : ByteArray)]) ?_ 1 _ rfl; (with_reducible repeat (first | refine blk_drewN ?_ _ | refine blk_drew ?_ | refine blk_alloc ?_ _)); refine blk_put (cs := #[.int .i64 0, .int .i64 0, .string (⟨#[]⟩ : ByteArray)]) ?_ 0 _ rfl; (with_reducible repeat (first | refine blk_drewN ?_ _ | refine blk_drew ?_ | refine blk_alloc ?_ _)); refine blk_far ?_ NB358_0.out _; (with_reducible repeat (first | refine blk_drewN ?_ _ | refine blk_drew ?_ | refine blk_alloc ?_ _)); exact BK358.out) Tryz.underlying50 rfl (by kernel_rfl)) rfl ?_); (exact ⟨rr_, ab16_, ab17_, ab18_⟩)
  ·rw [if_neg c32] at H
   have c32b0 : (t359 == 2) = false := beq_eq_false_iff_ne.mpr c32; have c32b1 : (t359 != 2) = true := bne_iff_ne.mpr c32
   by_cases c61 : t359 = 3
   ·rw [if_pos c61] at H
    have c61b0 : (t359 == 3) = true := beq_iff_eq.mpr c61; have c61b1 : (t359 != 3) = false := bne_eq_false_iff_eq.mpr c61; clear c61; replace H := bsi_ H; obtain ⟨⟨t374, t375, t376, t377⟩, A620, H⟩ := H
    try dsimp only at H
    have A62 := am_ A620; clear A620; replace H := bsi_ H; obtain ⟨⟨t378, t379, t380, t381⟩, A630, H⟩ := H
    try dsimp only at H
    have A63 := am_ A630; clear A630
    by_cases c64 : t381 = true
    ·subst c64
     rw [if_pos rfl] at H; simp only [Option.some.injEq, Prod.mk.injEq] at H; obtain ⟨rfl, rfl, rfl, rfl, rfl, rfl⟩ := H
     go_enter Tryz.func26, Tryz.ntmps26
     go_wp2_with (first | ((with_reducible refine gate_dst (N := 2) rfl ?_); refine bx_ 2 #[.int .i64 0, .int .i64 0, .string (⟨#[]⟩ : ByteArray)] 50 ?_; intro gb358 hg w65 hbox hb; have n0_ := am_ (IsS58.below ab4_ hb); have n1_ := am_ (KeepBut.trans ab38_ (KeepBut.of_below hb g none) (.inl rfl)); have n2_ := am_ (below_step ab5_ hb); have n3_ := am_ (hbox); have n4_ := am_ ((by rw [hg]; exact (kz_ (g := g) ab38_) : w.heap.size ≤ gb358)); have n5_ := am_ ((Nat.le_trans HW0.out (by rw [hg]; exact (kz_ (g := g) ab38_) : w.heap.size ≤ gb358) : w0.heap.size ≤ gb358)); have n6_ := am_ ((by rw [hg]; exact Nat.ne_of_lt (IsS58.lt (show IsS58 w0 _ g s0_0 s0_1 s0_2 from ab4_)) : g ≠ gb358)); have n7_ := am_ ((by rw [hg]; exact Nat.ne_of_gt (IsS58.lt (show IsS58 w0 _ g s0_0 s0_1 s0_2 from ab4_)) : gb358 ≠ g)); clear HI0; clear HK; clear HB; have HI0 := n0_; have HK := n1_; have HB := n2_; have BK358 := n3_; have GW358 := n4_; have GE358 := n5_; have NB0_358 := n6_; have NB358_0 := n7_; clear n0_ n1_ n2_ n3_ n4_ n5_ n6_ n7_; clear hb hbox hg) | ((with_reducible refine gate_callee (f := 25) rfl ?_); refine gsL_ (some 5) Tryz.func25 #[.pointer (some ⟨g, 0, none⟩), .int .i64 1] ?_; (with_reducible refine (impl_reader_size.calls g s0_0 s0_1 s0_2 1 t359 t360 t361 t362 w0 _ ?side1 ?side2 A2.out).mono ?_); (case side1 => exact ab13_); (case side2 => exact ab14_); rintro e w66 ⟨rfl, hi, hb, hk⟩; refine ⟨_, rfl, ?_⟩; replace BK358 := am_ (KeepBut.blk hk (g' := gb358) (o := .cells #[.int .i64 0, .int .i64 0, .string (⟨#[]⟩ : ByteArray)] 50 (0, 0)) (bkx_ BK358.out) NB358_0.out (by simp)); replace HK := am_ (KeepBut.trans ab15_ hk (.inl rfl)); replace HI0 := am_ (hi); replace HB := am_ (hb); (try clear hb)) | ((with_reducible refine gate_dst (N := 3) rfl ?_); refine bx_ 3 #[.int .i64 0, .int .i64 0, .string (⟨#[]⟩ : ByteArray)] 50 ?_; intro gb363 hg w67 hbox hb; have n0_ := am_ (IsS58.below ab13_ hb); have n1_ := bkb_ BK358 hb; have n2_ := am_ (KeepBut.trans ab15_ (KeepBut.of_below hb g none) (.inl rfl)); have n3_ := am_ (below_step ab14_ hb); have n4_ := am_ (hbox); have n5_ := am_ ((by rw [hg]; exact (kz_ (g := g) ab15_) : w.heap.size ≤ gb363)); have n6_ := am_ ((Nat.le_trans HW0.out (by rw [hg]; exact (kz_ (g := g) ab15_) : w.heap.size ≤ gb363) : w0.heap.size ≤ gb363)); have n7_ := nl_ hg BK358; have n8_ := ng_ hg BK358; have n9_ := am_ ((by rw [hg]; exact Nat.ne_of_lt (IsS58.lt (show IsS58 w0 _ g t360 t361 t362 from ab13_)) : g ≠ gb363)); have n10_ := am_ ((by rw [hg]; exact Nat.ne_of_gt (IsS58.lt (show IsS58 w0 _ g t360 t361 t362 from ab13_)) : gb363 ≠ g)); clear HI0; clear BK358; clear HK; clear HB; have HI0 := n0_; have BK358 := n1_; have HK := n2_; have HB := n3_; have BK363 := n4_; have GW363 := n5_; have GE363 := n6_; have NB358_363 := n7_; have NB363_358 := n8_; have NB0_363 := n9_; have NB363_0 := n10_; clear n0_ n1_ n2_ n3_ n4_ n5_ n6_ n7_ n8_ n9_ n10_; clear hb hbox hg; have hnb68 := NB363_358.out; have hnc68 := NB358_363.out; have hnb69 := NB363_0.out; have hnc69 := NB0_363.out; obtain ⟨hcz70_0, hcz70_1, hcz70_2, hfz70_0, hfz70_1, hfz70_2⟩ := b3_ BK363) | ((with_reducible refine gate_callee (f := 25) rfl ?_); refine gsL_ (some 23) Tryz.func25 #[.pointer (some ⟨g, 0, none⟩), .int .i64 1] ?_; (with_reducible refine (impl_reader_size.calls g t360 t361 t362 1 t374 t375 t376 t377 w0 _ ?side1 ?side2 A62.out).mono ?_); (case side1 => exact ab16_); (case side2 => exact ab17_); rintro e w71 ⟨rfl, hi, hb, hk⟩; refine ⟨_, rfl, ?_⟩; replace BK358 := am_ (KeepBut.blk hk (g' := gb358) (o := .cells #[.int .i64 0, .int .i64 0, .string (⟨#[]⟩ : ByteArray)] 50 (0, 0)) (bf3_ NB358_363 (bkx_ BK358.out)) NB358_0.out (by simp)); replace BK363 := am_ (KeepBut.blk hk (g' := gb363) (o := .cells #[.int .i64 t359, .int .i64 0, .string (⟨#[]⟩ : ByteArray)] 50 (0, 0)) (bp3_ (bkx_ BK363.out)) NB363_0.out (by simp)); replace HK := am_ (KeepBut.trans ab18_ hk (.inl rfl)); replace HI0 := am_ (hi); replace HB := am_ (hb); (try clear hb)) | ((with_reducible refine gate_callee (f := 49) rfl ?_); refine gsL_ (some 24) Tryz.func49 #[.pointer (some ⟨g, 0, none⟩), .int .i64 t374] ?_; (with_reducible refine (impl_reader_take.calls g t375 t376 t377 t374 t378 t379 t380 true w0 _ ?side1 ?side2 A63.out).mono ?_); (case side1 => exact ab16_); (case side2 => exact ab17_); rintro e w72 ⟨rfl, hi, hb, hk⟩; refine ⟨_, rfl, ?_⟩; replace BK358 := am_ (KeepBut.blk hk (g' := gb358) (o := .cells #[.int .i64 0, .int .i64 0, .string (⟨#[]⟩ : ByteArray)] 50 (0, 0)) (bkx_ BK358.out) NB358_0.out (by simp)); replace BK363 := am_ (KeepBut.blk hk (g' := gb363) (o := .cells #[.int .i64 t359, .int .i64 0, .string (⟨#[]⟩ : ByteArray)] 50 (0, 0)) (bkx_ BK363.out) NB363_0.out (by simp)); replace HK := am_ (KeepBut.trans ab18_ hk (.inl rfl)); replace HI0 := am_ (hi); replace HB := am_ (hb); (try clear hb); obtain ⟨hcz73_0, hcz73_1, hcz73_2, hfz73_0, hfz73_1, hfz73_2⟩ := b3_ BK363; obtain ⟨HGz74, hgz74⟩ := HI0.out; have hcz74_0 := cellS58_0 HGz74; have hcz74_1 := cellS58_1 HGz74; have hcz74_2 := cellS58_2 HGz74; have hfz74_0 := blk_frozen HGz74 0; have hfz74_1 := blk_frozen HGz74 1; have hfz74_2 := blk_frozen HGz74 2; clear HGz74 hgz74; have hnb75 := NB358_0.out; have hnc75 := NB0_358.out; obtain ⟨hcz76_0, hcz76_1, hcz76_2, hfz76_0, hfz76_1, hfz76_2⟩ := b3_ BK358))
     (refine bodyPost_ret (results_cell_row rfl _ _ gb358 50 #[.int .i64 t359, .int .i64 0, .string t378] (0, 0) _ rfl (by (with_reducible repeat (first | refine blk_drewN ?_ _ | refine blk_drew ?_ | refine blk_alloc ?_ _)); refine blk_put (cs := #[.int .i64 t359, .int .i64 0, .string (⟨#[]⟩ : ByteArray)]) ?_ 2 _ rfl; (with_reducible repeat (first | refine blk_drewN ?_ _ | refine blk_drew ?_ | refine blk_alloc ?_ _)); refine blk_put (cs := #[.int .i64 t359, .int .i64 0, .string (⟨#[]⟩ : ByteArray)]) ?_ 1 _ rfl; (with_reducible repeat (first | refine blk_drewN ?_ _ | refine blk_drew ?_ | refine blk_alloc ?_ _)); refine blk_put (cs := #[.int .i64 0, .int .i64 0, .string (⟨#[]⟩ : ByteArray)]) ?_ 0 _ rfl; (with_reducible repeat (first | refine blk_drewN ?_ _ | refine blk_drew ?_ | refine blk_alloc ?_ _)); refine blk_far ?_ NB358_0.out _; (with_reducible repeat (first | refine blk_drewN ?_ _ | refine blk_drew ?_ | refine blk_alloc ?_ _)); refine blk_far ?_ NB358_363.out _; (with_reducible repeat (first | refine blk_drewN ?_ _ | refine blk_drew ?_ | refine blk_alloc ?_ _)); exact BK358.out) Tryz.underlying50 rfl (by kernel_rfl)) rfl ?_); (exact ⟨rr_, ab16_, ab17_, ab18_⟩)
    ·replace c64 := Bool.eq_false_iff.mpr c64
     subst c64; (rw [if_neg (show ¬ (false = true) by decide)] at H); replace H := bsi_ H; obtain ⟨t382, A770, H⟩ := H
     try dsimp only at H
     have A77 := am_ A770; clear A770; simp only [Option.some.injEq, Prod.mk.injEq] at H; obtain ⟨rfl, rfl, rfl, rfl, rfl, rfl⟩ := H
     go_enter Tryz.func26, Tryz.ntmps26
     go_wp2_with (first | ((with_reducible refine gate_dst (N := 2) rfl ?_); refine bx_ 2 #[.int .i64 0, .int .i64 0, .string (⟨#[]⟩ : ByteArray)] 50 ?_; intro gb358 hg w78 hbox hb; have n0_ := am_ (IsS58.below ab4_ hb); have n1_ := am_ (KeepBut.trans ab38_ (KeepBut.of_below hb g none) (.inl rfl)); have n2_ := am_ (below_step ab5_ hb); have n3_ := am_ (hbox); have n4_ := am_ ((by rw [hg]; exact (kz_ (g := g) ab38_) : w.heap.size ≤ gb358)); have n5_ := am_ ((Nat.le_trans HW0.out (by rw [hg]; exact (kz_ (g := g) ab38_) : w.heap.size ≤ gb358) : w0.heap.size ≤ gb358)); have n6_ := am_ ((by rw [hg]; exact Nat.ne_of_lt (IsS58.lt (show IsS58 w0 _ g s0_0 s0_1 s0_2 from ab4_)) : g ≠ gb358)); have n7_ := am_ ((by rw [hg]; exact Nat.ne_of_gt (IsS58.lt (show IsS58 w0 _ g s0_0 s0_1 s0_2 from ab4_)) : gb358 ≠ g)); clear HI0; clear HK; clear HB; have HI0 := n0_; have HK := n1_; have HB := n2_; have BK358 := n3_; have GW358 := n4_; have GE358 := n5_; have NB0_358 := n6_; have NB358_0 := n7_; clear n0_ n1_ n2_ n3_ n4_ n5_ n6_ n7_; clear hb hbox hg) | ((with_reducible refine gate_callee (f := 25) rfl ?_); refine gsL_ (some 5) Tryz.func25 #[.pointer (some ⟨g, 0, none⟩), .int .i64 1] ?_; (with_reducible refine (impl_reader_size.calls g s0_0 s0_1 s0_2 1 t359 t360 t361 t362 w0 _ ?side1 ?side2 A2.out).mono ?_); (case side1 => exact ab13_); (case side2 => exact ab14_); rintro e w79 ⟨rfl, hi, hb, hk⟩; refine ⟨_, rfl, ?_⟩; replace BK358 := am_ (KeepBut.blk hk (g' := gb358) (o := .cells #[.int .i64 0, .int .i64 0, .string (⟨#[]⟩ : ByteArray)] 50 (0, 0)) (bkx_ BK358.out) NB358_0.out (by simp)); replace HK := am_ (KeepBut.trans ab15_ hk (.inl rfl)); replace HI0 := am_ (hi); replace HB := am_ (hb); (try clear hb)) | ((with_reducible refine gate_dst (N := 3) rfl ?_); refine bx_ 3 #[.int .i64 0, .int .i64 0, .string (⟨#[]⟩ : ByteArray)] 50 ?_; intro gb363 hg w80 hbox hb; have n0_ := am_ (IsS58.below ab13_ hb); have n1_ := bkb_ BK358 hb; have n2_ := am_ (KeepBut.trans ab15_ (KeepBut.of_below hb g none) (.inl rfl)); have n3_ := am_ (below_step ab14_ hb); have n4_ := am_ (hbox); have n5_ := am_ ((by rw [hg]; exact (kz_ (g := g) ab15_) : w.heap.size ≤ gb363)); have n6_ := am_ ((Nat.le_trans HW0.out (by rw [hg]; exact (kz_ (g := g) ab15_) : w.heap.size ≤ gb363) : w0.heap.size ≤ gb363)); have n7_ := nl_ hg BK358; have n8_ := ng_ hg BK358; have n9_ := am_ ((by rw [hg]; exact Nat.ne_of_lt (IsS58.lt (show IsS58 w0 _ g t360 t361 t362 from ab13_)) : g ≠ gb363)); have n10_ := am_ ((by rw [hg]; exact Nat.ne_of_gt (IsS58.lt (show IsS58 w0 _ g t360 t361 t362 from ab13_)) : gb363 ≠ g)); clear HI0; clear BK358; clear HK; clear HB; have HI0 := n0_; have BK358 := n1_; have HK := n2_; have HB := n3_; have BK363 := n4_; have GW363 := n5_; have GE363 := n6_; have NB358_363 := n7_; have NB363_358 := n8_; have NB0_363 := n9_; have NB363_0 := n10_; clear n0_ n1_ n2_ n3_ n4_ n5_ n6_ n7_ n8_ n9_ n10_; clear hb hbox hg; have hnb81 := NB363_358.out; have hnc81 := NB358_363.out; have hnb82 := NB363_0.out; have hnc82 := NB0_363.out; obtain ⟨hcz83_0, hcz83_1, hcz83_2, hfz83_0, hfz83_1, hfz83_2⟩ := b3_ BK363) | ((with_reducible refine gate_callee (f := 25) rfl ?_); refine gsL_ (some 23) Tryz.func25 #[.pointer (some ⟨g, 0, none⟩), .int .i64 1] ?_; (with_reducible refine (impl_reader_size.calls g t360 t361 t362 1 t374 t375 t376 t377 w0 _ ?side1 ?side2 A62.out).mono ?_); (case side1 => exact ab16_); (case side2 => exact ab17_); rintro e w84 ⟨rfl, hi, hb, hk⟩; refine ⟨_, rfl, ?_⟩; replace BK358 := am_ (KeepBut.blk hk (g' := gb358) (o := .cells #[.int .i64 0, .int .i64 0, .string (⟨#[]⟩ : ByteArray)] 50 (0, 0)) (bf3_ NB358_363 (bkx_ BK358.out)) NB358_0.out (by simp)); replace BK363 := am_ (KeepBut.blk hk (g' := gb363) (o := .cells #[.int .i64 t359, .int .i64 0, .string (⟨#[]⟩ : ByteArray)] 50 (0, 0)) (bp3_ (bkx_ BK363.out)) NB363_0.out (by simp)); replace HK := am_ (KeepBut.trans ab18_ hk (.inl rfl)); replace HI0 := am_ (hi); replace HB := am_ (hb); (try clear hb)) | ((with_reducible refine gate_callee (f := 49) rfl ?_); refine gsL_ (some 24) Tryz.func49 #[.pointer (some ⟨g, 0, none⟩), .int .i64 t374] ?_; (with_reducible refine (impl_reader_take.calls g t375 t376 t377 t374 t378 t379 t380 false w0 _ ?side1 ?side2 A63.out).mono ?_); (case side1 => exact ab16_); (case side2 => exact ab17_); rintro e w85 ⟨rfl, hi, hb, hk⟩; refine ⟨_, rfl, ?_⟩; replace BK358 := am_ (KeepBut.blk hk (g' := gb358) (o := .cells #[.int .i64 0, .int .i64 0, .string (⟨#[]⟩ : ByteArray)] 50 (0, 0)) (bkx_ BK358.out) NB358_0.out (by simp)); replace BK363 := am_ (KeepBut.blk hk (g' := gb363) (o := .cells #[.int .i64 t359, .int .i64 0, .string (⟨#[]⟩ : ByteArray)] 50 (0, 0)) (bkx_ BK363.out) NB363_0.out (by simp)); replace HK := am_ (KeepBut.trans ab18_ hk (.inl rfl)); replace HI0 := am_ (hi); replace HB := am_ (hb); (try clear hb); obtain ⟨hcz86_0, hcz86_1, hcz86_2, hfz86_0, hfz86_1, hfz86_2⟩ := b3_ BK363; obtain ⟨HGz87, hgz87⟩ := HI0.out; have hcz87_0 := cellS58_0 HGz87; have hcz87_1 := cellS58_1 HGz87; have hcz87_2 := cellS58_2 HGz87; have hfz87_0 := blk_frozen HGz87 0; have hfz87_1 := blk_frozen HGz87 1; have hfz87_2 := blk_frozen HGz87 2; clear HGz87 hgz87) | (go_at_call 46; (with_reducible refine (impl_ValueOk.calls t359 0 t378 t382 _ A77.out).mono ?_); rintro e w88 ⟨rfl, hb⟩; have n0_ := am_ (IsS58.below (show IsS58 w0 (w85.setCell ⟨gb363, 2, none⟩ (.string t378)) g t379 t380 false from ab16_) hb); have n1_ := am_ (blk_below (g := gb358) (o := .cells #[.int .i64 0, .int .i64 0, .string (⟨#[]⟩ : ByteArray)] 50 (0, 0)) (bf1_ NB358_363 (bkx_ BK358.out)) hb); have n2_ := am_ (blk_below (g := gb363) (o := .cells #[.int .i64 t359, .int .i64 0, .string t378] 50 (0, 0)) (by (with_reducible repeat (first | refine blk_drewN ?_ _ | refine blk_drew ?_ | refine blk_alloc ?_ _)); refine blk_put (cs := #[.int .i64 t359, .int .i64 0, .string (⟨#[]⟩ : ByteArray)]) ?_ 2 _ rfl; (with_reducible repeat (first | refine blk_drewN ?_ _ | refine blk_drew ?_ | refine blk_alloc ?_ _)); exact BK363.out) hb); have n3_ := am_ (KeepBut.trans ab18_ (KeepBut.of_below hb g none) (.inl rfl)); have n4_ := am_ (below_step ab17_ hb); clear HI0; clear BK358; clear BK363; clear HK; clear HB; have HI0 := n0_; have BK358 := n1_; have BK363 := n2_; have HK := n3_; have HB := n4_; clear n0_ n1_ n2_ n3_ n4_; (try clear hb); obtain ⟨HGz89, hgz89⟩ := HI0.out; have hcz89_0 := cellS58_0 HGz89; have hcz89_1 := cellS58_1 HGz89; have hcz89_2 := cellS58_2 HGz89; have hfz89_0 := blk_frozen HGz89 0; have hfz89_1 := blk_frozen HGz89 1; have hfz89_2 := blk_frozen HGz89 2; clear HGz89 hgz89; obtain ⟨hcz90_0, hcz90_1, hcz90_2, hfz90_0, hfz90_1, hfz90_2⟩ := b3_ BK363; have hnb91 := NB358_0.out; have hnc91 := NB0_358.out; obtain ⟨hcz92_0, hcz92_1, hcz92_2, hfz92_0, hfz92_1, hfz92_2⟩ := b3_ BK358))
     (refine bodyPost_ret (results_cell_row rfl _ _ gb358 50 #[.int .i64 t359, .int .i64 0, .string t378] (0, 0) _ rfl (by (with_reducible repeat (first | refine blk_drewN ?_ _ | refine blk_drew ?_ | refine blk_alloc ?_ _)); refine blk_put (cs := #[.int .i64 t359, .int .i64 0, .string (⟨#[]⟩ : ByteArray)]) ?_ 2 _ rfl; (with_reducible repeat (first | refine blk_drewN ?_ _ | refine blk_drew ?_ | refine blk_alloc ?_ _)); refine blk_put (cs := #[.int .i64 t359, .int .i64 0, .string (⟨#[]⟩ : ByteArray)]) ?_ 1 _ rfl; (with_reducible repeat (first | refine blk_drewN ?_ _ | refine blk_drew ?_ | refine blk_alloc ?_ _)); refine blk_put (cs := #[.int .i64 0, .int .i64 0, .string (⟨#[]⟩ : ByteArray)]) ?_ 0 _ rfl; (with_reducible repeat (first | refine blk_drewN ?_ _ | refine blk_drew ?_ | refine blk_alloc ?_ _)); refine blk_far ?_ NB358_0.out _; (with_reducible repeat (first | refine blk_drewN ?_ _ | refine blk_drew ?_ | refine blk_alloc ?_ _)); exact BK358.out) Tryz.underlying50 rfl (by kernel_rfl)) rfl ?_); (exact ⟨rr_, ab16_, ab17_, ab18_⟩)
   ·rw [if_neg c61] at H
    have c61b0 : (t359 == 3) = false := beq_eq_false_iff_ne.mpr c61; have c61b1 : (t359 != 3) = true := bne_iff_ne.mpr c61
    by_cases c93 : t362 = true
    ·subst c93
     rw [if_pos rfl] at H; simp only [Option.some.injEq, Prod.mk.injEq] at H; obtain ⟨rfl, rfl, rfl, rfl, rfl, rfl⟩ := H
     go_enter Tryz.func26, Tryz.ntmps26
     go_wp2_with (first | ((with_reducible refine gate_dst (N := 2) rfl ?_); refine bx_ 2 #[.int .i64 0, .int .i64 0, .string (⟨#[]⟩ : ByteArray)] 50 ?_; intro gb358 hg w94 hbox hb; have n0_ := am_ (IsS58.below ab4_ hb); have n1_ := am_ (KeepBut.trans ab38_ (KeepBut.of_below hb g none) (.inl rfl)); have n2_ := am_ (below_step ab5_ hb); have n3_ := am_ (hbox); have n4_ := am_ ((by rw [hg]; exact (kz_ (g := g) ab38_) : w.heap.size ≤ gb358)); have n5_ := am_ ((Nat.le_trans HW0.out (by rw [hg]; exact (kz_ (g := g) ab38_) : w.heap.size ≤ gb358) : w0.heap.size ≤ gb358)); have n6_ := am_ ((by rw [hg]; exact Nat.ne_of_lt (IsS58.lt (show IsS58 w0 _ g s0_0 s0_1 s0_2 from ab4_)) : g ≠ gb358)); have n7_ := am_ ((by rw [hg]; exact Nat.ne_of_gt (IsS58.lt (show IsS58 w0 _ g s0_0 s0_1 s0_2 from ab4_)) : gb358 ≠ g)); clear HI0; clear HK; clear HB; have HI0 := n0_; have HK := n1_; have HB := n2_; have BK358 := n3_; have GW358 := n4_; have GE358 := n5_; have NB0_358 := n6_; have NB358_0 := n7_; clear n0_ n1_ n2_ n3_ n4_ n5_ n6_ n7_; clear hb hbox hg) | ((with_reducible refine gate_callee (f := 25) rfl ?_); refine gsL_ (some 5) Tryz.func25 #[.pointer (some ⟨g, 0, none⟩), .int .i64 1] ?_; (with_reducible refine (impl_reader_size.calls g s0_0 s0_1 s0_2 1 t359 t360 t361 true w0 _ ?side1 ?side2 A2.out).mono ?_); (case side1 => exact ab13_); (case side2 => exact ab14_); rintro e w95 ⟨rfl, hi, hb, hk⟩; refine ⟨_, rfl, ?_⟩; replace BK358 := am_ (KeepBut.blk hk (g' := gb358) (o := .cells #[.int .i64 0, .int .i64 0, .string (⟨#[]⟩ : ByteArray)] 50 (0, 0)) (bkx_ BK358.out) NB358_0.out (by simp)); replace HK := am_ (KeepBut.trans ab15_ hk (.inl rfl)); replace HI0 := am_ (hi); replace HB := am_ (hb); (try clear hb)) | ((with_reducible refine gate_dst (N := 3) rfl ?_); refine bx_ 3 #[.int .i64 0, .int .i64 0, .string (⟨#[]⟩ : ByteArray)] 50 ?_; intro gb363 hg w96 hbox hb; have n0_ := am_ (IsS58.below ab13_ hb); have n1_ := bkb_ BK358 hb; have n2_ := am_ (KeepBut.trans ab15_ (KeepBut.of_below hb g none) (.inl rfl)); have n3_ := am_ (below_step ab14_ hb); have n4_ := am_ (hbox); have n5_ := am_ ((by rw [hg]; exact (kz_ (g := g) ab15_) : w.heap.size ≤ gb363)); have n6_ := am_ ((Nat.le_trans HW0.out (by rw [hg]; exact (kz_ (g := g) ab15_) : w.heap.size ≤ gb363) : w0.heap.size ≤ gb363)); have n7_ := nl_ hg BK358; have n8_ := ng_ hg BK358; have n9_ := am_ ((by rw [hg]; exact Nat.ne_of_lt (IsS58.lt (show IsS58 w0 _ g t360 t361 true from ab13_)) : g ≠ gb363)); have n10_ := am_ ((by rw [hg]; exact Nat.ne_of_gt (IsS58.lt (show IsS58 w0 _ g t360 t361 true from ab13_)) : gb363 ≠ g)); clear HI0; clear BK358; clear HK; clear HB; have HI0 := n0_; have BK358 := n1_; have HK := n2_; have HB := n3_; have BK363 := n4_; have GW363 := n5_; have GE363 := n6_; have NB358_363 := n7_; have NB363_358 := n8_; have NB0_363 := n9_; have NB363_0 := n10_; clear n0_ n1_ n2_ n3_ n4_ n5_ n6_ n7_ n8_ n9_ n10_; clear hb hbox hg; have hnb97 := NB363_358.out; have hnc97 := NB358_363.out; have hnb98 := NB363_0.out; have hnc98 := NB0_363.out; obtain ⟨hcz99_0, hcz99_1, hcz99_2, hfz99_0, hfz99_1, hfz99_2⟩ := b3_ BK363; obtain ⟨HGz100, hgz100⟩ := HI0.out; have hcz100_0 := cellS58_0 HGz100; have hcz100_1 := cellS58_1 HGz100; have hcz100_2 := cellS58_2 HGz100; have hfz100_0 := blk_frozen HGz100 0; have hfz100_1 := blk_frozen HGz100 1; have hfz100_2 := blk_frozen HGz100 2; clear HGz100 hgz100; have hnb101 := NB358_0.out; have hnc101 := NB0_358.out; obtain ⟨hcz102_0, hcz102_1, hcz102_2, hfz102_0, hfz102_1, hfz102_2⟩ := b3_ BK358))
     (refine bodyPost_ret (results_cell_row rfl _ _ gb358 50 #[.int .i64 t359, .int .i64 0, .string (⟨#[]⟩ : ByteArray)] (0, 0) _ rfl (by (with_reducible repeat (first | refine blk_drewN ?_ _ | refine blk_drew ?_ | refine blk_alloc ?_ _)); refine blk_put (cs := #[.int .i64 t359, .int .i64 0, .string (⟨#[]⟩ : ByteArray)]) ?_ 2 _ rfl; (with_reducible repeat (first | refine blk_drewN ?_ _ | refine blk_drew ?_ | refine blk_alloc ?_ _)); refine blk_put (cs := #[.int .i64 t359, .int .i64 0, .string (⟨#[]⟩ : ByteArray)]) ?_ 1 _ rfl; (with_reducible repeat (first | refine blk_drewN ?_ _ | refine blk_drew ?_ | refine blk_alloc ?_ _)); refine blk_put (cs := #[.int .i64 0, .int .i64 0, .string (⟨#[]⟩ : ByteArray)]) ?_ 0 _ rfl; (with_reducible repeat (first | refine blk_drewN ?_ _ | refine blk_drew ?_ | refine blk_alloc ?_ _)); refine blk_far ?_ NB358_0.out _; (with_reducible repeat (first | refine blk_drewN ?_ _ | refine blk_drew ?_ | refine blk_alloc ?_ _)); refine blk_far ?_ NB358_363.out _; (with_reducible repeat (first | refine blk_drewN ?_ _ | refine blk_drew ?_ | refine blk_alloc ?_ _)); refine blk_far ?_ NB358_363.out _; (with_reducible repeat (first | refine blk_drewN ?_ _ | refine blk_drew ?_ | refine blk_alloc ?_ _)); refine blk_far ?_ NB358_363.out _; (with_reducible repeat (first | refine blk_drewN ?_ _ | refine blk_drew ?_ | refine blk_alloc ?_ _)); exact BK358.out) Tryz.underlying50 rfl (by kernel_rfl)) rfl ?_); (exact ⟨rr_, ab16_, ab17_, ab18_⟩)
    ·replace c93 := Bool.eq_false_iff.mpr c93
     subst c93; (rw [if_neg (show ¬ (false = true) by decide)] at H); replace H := bsi_ H; obtain ⟨t383, A1030, H⟩ := H
     try dsimp only at H
     have A103 := am_ A1030; clear A1030; simp only [Option.some.injEq, Prod.mk.injEq] at H; obtain ⟨rfl, rfl, rfl, rfl, rfl, rfl⟩ := H
     go_enter Tryz.func26, Tryz.ntmps26
     go_wp2_with (first | ((with_reducible refine gate_dst (N := 2) rfl ?_); refine bx_ 2 #[.int .i64 0, .int .i64 0, .string (⟨#[]⟩ : ByteArray)] 50 ?_; intro gb358 hg w104 hbox hb; have n0_ := am_ (IsS58.below ab4_ hb); have n1_ := am_ (KeepBut.trans ab38_ (KeepBut.of_below hb g none) (.inl rfl)); have n2_ := am_ (below_step ab5_ hb); have n3_ := am_ (hbox); have n4_ := am_ ((by rw [hg]; exact (kz_ (g := g) ab38_) : w.heap.size ≤ gb358)); have n5_ := am_ ((Nat.le_trans HW0.out (by rw [hg]; exact (kz_ (g := g) ab38_) : w.heap.size ≤ gb358) : w0.heap.size ≤ gb358)); have n6_ := am_ ((by rw [hg]; exact Nat.ne_of_lt (IsS58.lt (show IsS58 w0 _ g s0_0 s0_1 s0_2 from ab4_)) : g ≠ gb358)); have n7_ := am_ ((by rw [hg]; exact Nat.ne_of_gt (IsS58.lt (show IsS58 w0 _ g s0_0 s0_1 s0_2 from ab4_)) : gb358 ≠ g)); clear HI0; clear HK; clear HB; have HI0 := n0_; have HK := n1_; have HB := n2_; have BK358 := n3_; have GW358 := n4_; have GE358 := n5_; have NB0_358 := n6_; have NB358_0 := n7_; clear n0_ n1_ n2_ n3_ n4_ n5_ n6_ n7_; clear hb hbox hg) | ((with_reducible refine gate_callee (f := 25) rfl ?_); refine gsL_ (some 5) Tryz.func25 #[.pointer (some ⟨g, 0, none⟩), .int .i64 1] ?_; (with_reducible refine (impl_reader_size.calls g s0_0 s0_1 s0_2 1 t359 t360 t361 false w0 _ ?side1 ?side2 A2.out).mono ?_); (case side1 => exact ab13_); (case side2 => exact ab14_); rintro e w105 ⟨rfl, hi, hb, hk⟩; refine ⟨_, rfl, ?_⟩; replace BK358 := am_ (KeepBut.blk hk (g' := gb358) (o := .cells #[.int .i64 0, .int .i64 0, .string (⟨#[]⟩ : ByteArray)] 50 (0, 0)) (bkx_ BK358.out) NB358_0.out (by simp)); replace HK := am_ (KeepBut.trans ab15_ hk (.inl rfl)); replace HI0 := am_ (hi); replace HB := am_ (hb); (try clear hb)) | ((with_reducible refine gate_dst (N := 3) rfl ?_); refine bx_ 3 #[.int .i64 0, .int .i64 0, .string (⟨#[]⟩ : ByteArray)] 50 ?_; intro gb363 hg w106 hbox hb; have n0_ := am_ (IsS58.below ab13_ hb); have n1_ := bkb_ BK358 hb; have n2_ := am_ (KeepBut.trans ab15_ (KeepBut.of_below hb g none) (.inl rfl)); have n3_ := am_ (below_step ab14_ hb); have n4_ := am_ (hbox); have n5_ := am_ ((by rw [hg]; exact (kz_ (g := g) ab15_) : w.heap.size ≤ gb363)); have n6_ := am_ ((Nat.le_trans HW0.out (by rw [hg]; exact (kz_ (g := g) ab15_) : w.heap.size ≤ gb363) : w0.heap.size ≤ gb363)); have n7_ := nl_ hg BK358; have n8_ := ng_ hg BK358; have n9_ := am_ ((by rw [hg]; exact Nat.ne_of_lt (IsS58.lt (show IsS58 w0 _ g t360 t361 false from ab13_)) : g ≠ gb363)); have n10_ := am_ ((by rw [hg]; exact Nat.ne_of_gt (IsS58.lt (show IsS58 w0 _ g t360 t361 false from ab13_)) : gb363 ≠ g)); clear HI0; clear BK358; clear HK; clear HB; have HI0 := n0_; have BK358 := n1_; have HK := n2_; have HB := n3_; have BK363 := n4_; have GW363 := n5_; have GE363 := n6_; have NB358_363 := n7_; have NB363_358 := n8_; have NB0_363 := n9_; have NB363_0 := n10_; clear n0_ n1_ n2_ n3_ n4_ n5_ n6_ n7_ n8_ n9_ n10_; clear hb hbox hg; have hnb107 := NB363_358.out; have hnc107 := NB358_363.out; have hnb108 := NB363_0.out; have hnc108 := NB0_363.out; obtain ⟨hcz109_0, hcz109_1, hcz109_2, hfz109_0, hfz109_1, hfz109_2⟩ := b3_ BK363; obtain ⟨HGz110, hgz110⟩ := HI0.out; have hcz110_0 := cellS58_0 HGz110; have hcz110_1 := cellS58_1 HGz110; have hcz110_2 := cellS58_2 HGz110; have hfz110_0 := blk_frozen HGz110 0; have hfz110_1 := blk_frozen HGz110 1; have hfz110_2 := blk_frozen HGz110 2; clear HGz110 hgz110) | (go_at_call 46; (with_reducible refine (impl_ValueOk.calls t359 0 (⟨#[]⟩ : ByteArray) t383 _ A103.out).mono ?_); rintro e w111 ⟨rfl, hb⟩; have n0_ := am_ (IsS58.below (show IsS58 w0 (((w106.setCell ⟨gb363, 0, none⟩ (.int .i64 t359)).setCell ⟨gb363, 1, none⟩ (.int .i64 0)).setCell ⟨gb363, 2, none⟩ (.string (⟨#[]⟩ : ByteArray))) g t360 t361 false from ab16_) hb); have n1_ := am_ (blk_below (g := gb358) (o := .cells #[.int .i64 0, .int .i64 0, .string (⟨#[]⟩ : ByteArray)] 50 (0, 0)) (bf3_ NB358_363 (bkx_ BK358.out)) hb); have n2_ := am_ (blk_below (g := gb363) (o := .cells #[.int .i64 t359, .int .i64 0, .string (⟨#[]⟩ : ByteArray)] 50 (0, 0)) (bp3_ (bkx_ BK363.out)) hb); have n3_ := am_ (KeepBut.trans ab18_ (KeepBut.of_below hb g none) (.inl rfl)); have n4_ := am_ (below_step ab17_ hb); clear HI0; clear BK358; clear BK363; clear HK; clear HB; have HI0 := n0_; have BK358 := n1_; have BK363 := n2_; have HK := n3_; have HB := n4_; clear n0_ n1_ n2_ n3_ n4_; (try clear hb); obtain ⟨HGz112, hgz112⟩ := HI0.out; have hcz112_0 := cellS58_0 HGz112; have hcz112_1 := cellS58_1 HGz112; have hcz112_2 := cellS58_2 HGz112; have hfz112_0 := blk_frozen HGz112 0; have hfz112_1 := blk_frozen HGz112 1; have hfz112_2 := blk_frozen HGz112 2; clear HGz112 hgz112; obtain ⟨hcz113_0, hcz113_1, hcz113_2, hfz113_0, hfz113_1, hfz113_2⟩ := b3_ BK363; have hnb114 := NB358_0.out; have hnc114 := NB0_358.out; obtain ⟨hcz115_0, hcz115_1, hcz115_2, hfz115_0, hfz115_1, hfz115_2⟩ := b3_ BK358))
     (refine bodyPost_ret (results_cell_row rfl _ _ gb358 50 #[.int .i64 t359, .int .i64 0, .string (⟨#[]⟩ : ByteArray)] (0, 0) _ rfl (by (with_reducible repeat (first | refine blk_drewN ?_ _ | refine blk_drew ?_ | refine blk_alloc ?_ _)); refine blk_put (cs := #[.int .i64 t359, .int .i64 0, .string (⟨#[]⟩ : ByteArray)]) ?_ 2 _ rfl; (with_reducible repeat (first | refine blk_drewN ?_ _ | refine blk_drew ?_ | refine blk_alloc ?_ _)); refine blk_put (cs := #[.int .i64 t359, .int .i64 0, .string (⟨#[]⟩ : ByteArray)]) ?_ 1 _ rfl; (with_reducible repeat (first | refine blk_drewN ?_ _ | refine blk_drew ?_ | refine blk_alloc ?_ _)); refine blk_put (cs := #[.int .i64 0, .int .i64 0, .string (⟨#[]⟩ : ByteArray)]) ?_ 0 _ rfl; (with_reducible repeat (first | refine blk_drewN ?_ _ | refine blk_drew ?_ | refine blk_alloc ?_ _)); refine blk_far ?_ NB358_0.out _; (with_reducible repeat (first | refine blk_drewN ?_ _ | refine blk_drew ?_ | refine blk_alloc ?_ _)); exact BK358.out) Tryz.underlying50 rfl (by kernel_rfl)) rfl ?_); (exact ⟨rr_, ab16_, ab17_, ab18_⟩)
end Go.Proofs.YtoajedijckkjjaaGreatDoor.PFnBagBytes
