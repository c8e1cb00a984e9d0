-- WRITTEN BY xprint.py, a program of this session over the kit's printer: by nobody's hand
-- PRESSED4 -- PRESSED TWICE3 -- PRESSED TWICE
import Derived.Test.YtoajedijckkjjaaGreatDoorPress
import Derived.Test.YtoajedijckkjjaaGreatDoorPress3
import Derived.Test.YtoajedijckkjjaaGreatDoorPFnBagBytesx0
import Derived.Test.YtoajedijckkjjaaGreatDoorPFnBagBytesx1
namespace Go.Proofs.YtoajedijckkjjaaGreatDoor.PFnBagBytes
open Go.RowKit Go.Proofs.YtoajedijckkjjaaGreatDoorW.PrintWords Go.Proofs.YtoajedijckkjjaaGreatDoorW.PrintLast Go.Proofs.YtoajedijckkjjaaGreatDoorW.PrintMore
attribute [local go_sem] max2_int min2_int max_two min_two max_three min_three max_four min_four
set_option linter.unusedVariables false
set_option linter.unusedSimpArgs false
/-! ### spec_l02Any: function 15 -/
def spec_l02Any.f (k : Nat) (s0_0 : List Int) (s0_1 : Int) (s0_2 : Int) : Option (Int × (List (S47)) × Int × Int) := (spec_l01Below.f s0_0 s0_1 s0_2 4).bind fun bt218 => ((spec_l02Bag.f k s0_0 bt218.2.1 bt218.2.2 bt218.1 true).bind fun bt221 => ((spec_l01Below.f s0_0 bt221.2.2.1 bt221.2.2.2 16).bind fun bt228 => (if bt228.1 = 0 then ((spec_l01PickInt.f s0_0 bt228.2.1 bt228.2.2 (([(-1), 13, wrap64 (bt221.1 + 1)] : List Int))).bind fun bt234 => (some (bt234.1, bt221.2.1, bt234.2.1, bt234.2.2))) else (if bt228.1 = 1 then ((spec_l02Rows.f k s0_0 bt228.2.1 bt228.2.2 bt221.1 1).bind fun bt237 => (if 0 < (bt237.1.length : Int) then ((spec_l01Below.f s0_0 bt237.2.1 bt237.2.2 3).bind fun bt243 => (if bt221.2.1.length < 4398046511104 then (some (bt221.1, (bt221.2.1 ++ [(⟨rd_L4 bt237.1 0, bt243.1⟩ : S47)]), bt243.2.1, bt243.2.2)) else (none))) else (none))) else (if bt228.1 = 2 then (if (bt221.2.1.length : Int) > 0 then ((spec_l01PickInt.f s0_0 bt228.2.1 bt228.2.2 (([0, 1000000000, 1000000001, (-1000000000)] : List Int))).bind fun bt252 => (if 0 < (bt221.2.1.length : Int) then (some (bt221.1, (bt221.2.1.set (0 : Int).toNat (⟨(rd_T47 bt221.2.1 0).f0, bt252.1⟩ : S47)), bt252.2.1, bt252.2.2)) else (none))) else (some (bt221.1, bt221.2.1, bt228.2.1, bt228.2.2))) else (some (bt221.1, bt221.2.1, bt228.2.1, bt228.2.2)))))))
def spec_l02Any.T6 : Bool × List (List Nat × List Nat) := (true, [([], []), ([0], [0]), ([], []), ([], []), ([3], [3]), ([2, 4], [2, 4]), ([5], [5]), ([6], [6]), ([], []), ([8, 5], [8]), ([7, 9], [7, 9]), ([10], [10]), ([1, 11, 9], [1, 11]), ([0, 1, 2, 3, 4, 5, 6, 7, 8, 9, 10, 11, 12], []), ([13, 12, 12, 0, 1, 2, 3, 4, 5, 6, 7, 8, 9, 10, 11, 12], [12, 13])])
def spec_l02Any.B6 : List Nat := [0, 1, 0, 0, 8, 28, 60, 124, 0, 316, 1020, 2044, 4095, 8191, 16383]
theorem spec_l02Any.tab6 : rtab .any (opsOf Tryz.f15 6) = spec_l02Any.T6 := by kernel_rfl
theorem spec_l02Any.bits6 : waitsOk spec_l02Any.T6.2 spec_l02Any.B6 = true := by kernel_rfl
def spec_l02Any.T9 : Bool × List (List Nat × List Nat) := (true, [([], []), ([0], [0]), ([], []), ([], []), ([2, 3], [2, 3]), ([1, 0, 1, 2, 3, 4], [1]), ([5, 0, 1, 2, 3, 4], [5]), ([6, 4, 4, 0, 1, 2, 3, 4], [4, 6])])
def spec_l02Any.B9 : List Nat := [0, 1, 0, 0, 12, 31, 63, 127]
theorem spec_l02Any.tab9 : rtab .any (opsOf Tryz.f15 9) = spec_l02Any.T9 := by kernel_rfl
theorem spec_l02Any.bits9 : waitsOk spec_l02Any.T9.2 spec_l02Any.B9 = true := by kernel_rfl
theorem ab65_ {w0 W : World} {g : Nat} {f0 : List Int} {f1 : Int} {f2 : Int} (h : IsS75 w0 W g f0 f1 f2 := by repeat (first | (with_reducible first | exact HI0.out | apply IsS75.alloc | apply IsS75.drewN | apply IsS75.drew | apply IsS75.set_1 | apply IsS75.set_2 | apply IsS75.far (hne := NB0_217.out)) | exact HI0.out)) : IsS75 w0 W g f0 f1 f2 := h
theorem ab66_ {B : Nat} {w W : World} (h : Below B w W := by repeat (first | (with_reducible first | exact HB.out | apply below_alloc | apply pw_below_drewN | apply below_drew1 | refine below_set ?_ (IsS75.ge HI0.out) | refine below_set ?_ GE217.out) | exact HB.out)) : Below B w W := h
theorem ab67_ {w W : World} {g : Nat} (h : KeepBut w W g none := by repeat (first | (with_reducible first | exact HK.out | apply KeepBut.set_ | apply keep_drewN | apply keep_drew | apply keep_alloc | refine keep_far ?_ GW217.out _) | exact HK.out)) : KeepBut w W g none := h
theorem ab68_ {w0 W : World} {g : Nat} {f0 : List Int} {f1 : Int} {f2 : Int} (h : IsS75 w0 W g f0 f1 f2 := by repeat (first | (with_reducible first | exact HI0.out | apply IsS75.alloc | apply IsS75.drewN | apply IsS75.drew | apply IsS75.set_1 | apply IsS75.set_2 | apply IsS75.far (hne := NB0_217.out) | apply IsS75.far (hne := NB0_227.out)) | exact HI0.out)) : IsS75 w0 W g f0 f1 f2 := h
theorem ab69_ {B : Nat} {w W : World} (h : Below B w W := by repeat (first | (with_reducible first | exact HB.out | apply below_alloc | apply pw_below_drewN | apply below_drew1 | refine below_set ?_ (IsS75.ge HI0.out) | refine below_set ?_ GE217.out | refine below_set ?_ GE227.out) | exact HB.out)) : Below B w W := h
theorem ab70_ {w W : World} {g : Nat} (h : KeepBut w W g none := by repeat (first | (with_reducible first | exact HK.out | apply KeepBut.set_ | apply keep_drewN | apply keep_drew | apply keep_alloc | refine keep_far ?_ GW217.out _ | refine keep_far ?_ GW227.out _) | exact HK.out)) : KeepBut w W g none := h
set_option maxHeartbeats 8000000 in
set_option maxRecDepth 100000 in
theorem spec_l02Any.calls (k : Nat) (g : Nat) (s0_0 : List Int) (s0_1 : Int) (s0_2 : Int) (r1 : Int) (r2 : List (S47)) (r3 : Int) (r4 : Int) (w0 w : World) (hI : IsS75 w0 w g s0_0 s0_1 s0_2) (hB : Below w0.heap.size w0 w) (h : spec_l02Any.f k s0_0 s0_1 s0_2 = some (r1, r2, r3, r4)) :
  Calls Tryz.prog 15 #[.pointer (some ⟨g, 0, none⟩)] w fun e w' => ∃ v1_ : Value, e = .returned (.agg #[.int .i64 r1, v1_]) ∧ Kd.N k47 47 w' w.heap.size (fun k_ => (w.heap.size ≤ k_)) v1_ r2 ∧ IsS75 w0 w' g s0_0 r3 r4 ∧ Below w0.heap.size w0 w' ∧ KeepBut w w' g none := by
 have hu26 := Tryz.underlying26
 have hu47 := Tryz.underlying47
 have HI0 := am_ hI
 have HK := am_ (KeepBut.refl w g none)
 have HL := am_ hB.size
 clear hI
 have HW0 := am_ hB.size
 have HB := am_ hB
 clear hB
 have H : ((spec_l01Below.f s0_0 s0_1 s0_2 4).bind fun bt218 => ((spec_l02Bag.f k s0_0 bt218.2.1 bt218.2.2 bt218.1 true).bind fun bt221 => ((spec_l01Below.f s0_0 bt221.2.2.1 bt221.2.2.2 16).bind fun bt228 => (if bt228.1 = 0 then ((spec_l01PickInt.f s0_0 bt228.2.1 bt228.2.2 (([(-1), 13, wrap64 (bt221.1 + 1)] : List Int))).bind fun bt234 => (some (bt234.1, bt221.2.1, bt234.2.1, bt234.2.2))) else (if bt228.1 = 1 then ((spec_l02Rows.f k s0_0 bt228.2.1 bt228.2.2 bt221.1 1).bind fun bt237 => (if 0 < (bt237.1.length : Int) then ((spec_l01Below.f s0_0 bt237.2.1 bt237.2.2 3).bind fun bt243 => (if bt221.2.1.length < 4398046511104 then (some (bt221.1, (bt221.2.1 ++ [(⟨rd_L4 bt237.1 0, bt243.1⟩ : S47)]), bt243.2.1, bt243.2.2)) else (none))) else (none))) else (if bt228.1 = 2 then (if (bt221.2.1.length : Int) > 0 then ((spec_l01PickInt.f s0_0 bt228.2.1 bt228.2.2 (([0, 1000000000, 1000000001, (-1000000000)] : List Int))).bind fun bt252 => (if 0 < (bt221.2.1.length : Int) then (some (bt221.1, (bt221.2.1.set (0 : Int).toNat (⟨(rd_T47 bt221.2.1 0).f0, bt252.1⟩ : S47)), bt252.2.1, bt252.2.2)) else (none))) else (some (bt221.1, bt221.2.1, bt228.2.1, bt228.2.2))) else (some (bt221.1, bt221.2.1, bt228.2.1, bt228.2.2)))))))) = some (r1, r2, r3, r4) := h
 clear h
 replace H := bsi_ H
 obtain ⟨⟨t218, t219, t220⟩, A20, H⟩ := H
 try dsimp only at H
 have A2 := am_ A20
 clear A20
 replace H := bsi_ H
 obtain ⟨⟨t221, t222, t225, t226⟩, A30, H⟩ := H
 try dsimp only at H
 have A3 := am_ A30
 clear A30
 replace H := bsi_ H
 obtain ⟨⟨t228, t229, t230⟩, A40, H⟩ := H
 try dsimp only at H
 have A4 := am_ A40
 clear A40
 by_cases c5 : t228 = 0
 ·rw [if_pos c5] at H
  have c5b0 : (t228 == 0) = true := beq_iff_eq.mpr c5; have c5b1 : (t228 != 0) = false := bne_eq_false_iff_eq.mpr c5; clear c5; obtain ⟨y231, hy231⟩ : ∃ y_ : List Int, y_ = (([(-1), 13, wrap64 (t221 + 1)] : List Int)) := ⟨_, rfl⟩; (replace H : ((spec_l01PickInt.f s0_0 t229 t230 y231).bind fun bt234 => (some (bt234.1, t222, bt234.2.1, bt234.2.2))) = some (r1, r2, r3, r4) := by first | (rw [hy231]; with_reducible exact H) | (have H2_ := (Option.bind_some _ _).symm.trans H; rw [hy231]; with_reducible exact H2_) | (have H2_ := (Option.bind_some _ _).symm.trans H; with_reducible exact H2_) | with_reducible exact H | (rw [hy231]; exact H) | exact H); have Ny231 := am_ hy231; clear hy231; replace H := bsi_ H; obtain ⟨⟨t234, t235, t236⟩, A60, H⟩ := H
  try dsimp only at H
  have A6 := am_ A60; clear A60; simp only [Option.some.injEq, Prod.mk.injEq] at H; obtain ⟨rfl, rfl, rfl, rfl⟩ := H
  go_enter Tryz.func15, Tryz.ntmps15
  go_wp2_with (first | ((with_reducible refine gate_dst (N := 2) rfl ?_); refine bx_ 2 #[.int .i64 0, .slice none 0 0] 26 ?_; intro gb217 hg w7 hbox hb; have n0_ := am_ (IsS75.below ab34_ hb); have n1_ := am_ (KeepBut.trans ab38_ (KeepBut.of_below hb g none) (.inl rfl)); have n2_ := am_ (below_step ab35_ hb); have n3_ := am_ (hbox); have n4_ := am_ ((by rw [hg]; exact (kz_ (g := g) ab38_) : w.heap.size ≤ gb217)); have n5_ := am_ ((Nat.le_trans HW0.out (by rw [hg]; exact (kz_ (g := g) ab38_) : w.heap.size ≤ gb217) : w0.heap.size ≤ gb217)); have n6_ := am_ ((by rw [hg]; exact Nat.ne_of_lt (IsS75.lt (show IsS75 w0 _ g s0_0 s0_1 s0_2 from ab34_)) : g ≠ gb217)); have n7_ := am_ ((by rw [hg]; exact Nat.ne_of_gt (IsS75.lt (show IsS75 w0 _ g s0_0 s0_1 s0_2 from ab34_)) : gb217 ≠ g)); clear HI0; clear HK; clear HB; have HI0 := n0_; have HK := n1_; have HB := n2_; have BK217 := n3_; have GW217 := n4_; have GE217 := n5_; have NB0_217 := n6_; have NB217_0 := n7_; clear n0_ n1_ n2_ n3_ n4_ n5_ n6_ n7_; clear hb hbox hg) | ((with_reducible refine gate_callee (f := 23) rfl ?_); refine gsL_ (some 6) Tryz.func23 #[.pointer (some ⟨g, 0, none⟩), .int .i64 4] ?_; (with_reducible refine (spec_l01Below.calls g s0_0 s0_1 s0_2 4 t218 t219 t220 w0 _ ?side1 ?side2 A2.out).mono ?_); (case side1 => exact ab65_); (case side2 => exact ab66_); rintro e w8 ⟨rfl, hi, hb, hk⟩; refine ⟨_, rfl, ?_⟩; replace BK217 := am_ (KeepBut.blk hk (g' := gb217) (o := .cells #[.int .i64 0, .slice none 0 0] 26 (0, 0)) (bkx_ BK217.out) NB217_0.out (by simp)); replace HK := am_ (KeepBut.trans ab67_ hk (.inl rfl)); replace HI0 := am_ (hi); replace HB := am_ (hb); (try clear hb)) | ((with_reducible refine gate_callee (f := 39) rfl ?_); refine gsL_ (some 7) Tryz.func39 #[.pointer (some ⟨g, 0, none⟩), .int .i64 t218, .bool true] ?_; (with_reducible refine (spec_l02Bag.calls k g s0_0 t219 t220 t218 true t221 t222 t225 t226 w0 _ ?side1 ?side2 A3.out).mono ?_); (case side1 => exact ab65_); (case side2 => exact ab66_); rintro e w9 ⟨v223, rfl, ho0, hi, hb, hk⟩; refine ⟨_, rfl, ?_⟩; have HO224 := am_ (Kd.N_lower (Kd.N_mono (ok' := fun k_ => (w.heap.size ≤ k_) ∧ k_ ≠ gb217 ∧ k_ ≠ g) ho0 (fun k_ hk_ => ⟨(Nat.le_trans (kz_ (g := g) ab67_) hk_), (Kd.freshB (g := gb217) (o := .cells #[.int .i64 0, .slice none 0 0] 26 (0, 0)) (bkx_ BK217.out) k_ hk_), (IsS75.fresh ab65_ k_ hk_)⟩)) (kz_ (g := g) ab67_)); replace BK217 := am_ (KeepBut.blk hk (g' := gb217) (o := .cells #[.int .i64 0, .slice none 0 0] 26 (0, 0)) (bkx_ BK217.out) NB217_0.out (by simp)); replace HK := am_ (KeepBut.trans ab67_ hk (.inl rfl)); replace HI0 := am_ (hi); replace HB := am_ (hb); (try clear hb); (try clear ho0)) | ((with_reducible refine gate_dst (N := 3) rfl ?_); refine bx_ 3 #[.int .i64 0, .slice none 0 0] 26 ?_; intro gb227 hg w10 hbox hb; have n0_ := am_ (Kd.N_below (Kd.N_elderB (n3_ HO224.out) gb227 (Nat.le_of_eq hg.symm)) hb); have n1_ := am_ (IsS75.below ab65_ hb); have n2_ := bkb_ BK217 hb; have n3_ := am_ (KeepBut.trans ab67_ (KeepBut.of_below hb g none) (.inl rfl)); have n4_ := am_ (below_step ab66_ hb); have n5_ := am_ (hbox); have n6_ := am_ ((by rw [hg]; exact (kz_ (g := g) ab67_) : w.heap.size ≤ gb227)); have n7_ := am_ ((Nat.le_trans HW0.out (by rw [hg]; exact (kz_ (g := g) ab67_) : w.heap.size ≤ gb227) : w0.heap.size ≤ gb227)); have n8_ := nl_ hg BK217; have n9_ := ng_ hg BK217; have n10_ := am_ ((by rw [hg]; exact Nat.ne_of_lt (IsS75.lt (show IsS75 w0 _ g s0_0 t225 t226 from ab65_)) : g ≠ gb227)); have n11_ := am_ ((by rw [hg]; exact Nat.ne_of_gt (IsS75.lt (show IsS75 w0 _ g s0_0 t225 t226 from ab65_)) : gb227 ≠ g)); clear HO224; clear HI0; clear BK217; clear HK; clear HB; have HO224 := n0_; have HI0 := n1_; have BK217 := n2_; have HK := n3_; have HB := n4_; have BK227 := n5_; have GW227 := n6_; have GE227 := n7_; have NB217_227 := n8_; have NB227_217 := n9_; have NB0_227 := n10_; have NB227_0 := n11_; clear n0_ n1_ n2_ n3_ n4_ n5_ n6_ n7_ n8_ n9_ n10_ n11_; clear hb hbox hg; have hnb11 := NB227_217.out; have hnc11 := NB217_227.out; have hnb12 := NB227_0.out; have hnc12 := NB0_227.out; obtain ⟨hcz13_0, hcz13_1, hfz13_0, hfz13_1⟩ := b2_ BK227; obtain ⟨Ao14, co14, eo14⟩ := Kd.N_slice HO224.out; subst eo14) | ((with_reducible refine gate_callee (f := 23) rfl ?_); refine gsL_ (some 9) Tryz.func23 #[.pointer (some ⟨g, 0, none⟩), .int .i64 16] ?_; (with_reducible refine (spec_l01Below.calls g s0_0 t225 t226 16 t228 t229 t230 w0 _ ?side1 ?side2 A4.out).mono ?_); (case side1 => exact ab68_); (case side2 => exact ab69_); rintro e w15 ⟨rfl, hi, hb, hk⟩; refine ⟨_, rfl, ?_⟩; replace BK217 := am_ (KeepBut.blk hk (g' := gb217) (o := .cells #[.int .i64 0, .slice none 0 0] 26 (0, 0)) (bf2_ NB217_227 (bkx_ BK217.out)) NB217_0.out (by simp)); replace HO224 := am_ (Kd.N_mono (Kd.N_keep (Kd.N_mono (ok := fun k_ => ((((w.heap.size ≤ k_)) ∧ (k_ ≠ gb217 ∧ k_ ≠ g)) ∧ k_ ≠ gb227)) (n3_ (Kd.N_mono (Kd.N_far (p := ⟨gb227, 1, none⟩) (Kd.N_far (p := ⟨gb227, 0, none⟩) (Kd.N_mono HO224.out (fun k_ hk => (⟨hk, hk.2⟩ : _ ∧ k_ ≠ gb227))) (fun _ hk => hk.2) (.int .i64 t221)) (fun _ hk => hk.2) (.slice Ao14 t222.length co14)) (fun _ h_ => h_.1))) (fun k_ hk_ => (⟨hk_, hk_.1.2.2⟩ : _ ∧ k_ ≠ g))) hk (fun _ h => h.2)) (fun _ h => h.1)); replace BK227 := am_ (KeepBut.blk hk (g' := gb227) (o := .cells #[.int .i64 t221, .slice Ao14 t222.length co14] 26 (0, 0)) (bp2_ (bkx_ BK227.out)) NB227_0.out (by simp)); replace HK := am_ (KeepBut.trans ab70_ hk (.inl rfl)); replace HI0 := am_ (hi); replace HB := am_ (hb); (try clear hb); obtain ⟨hcz16_0, hcz16_1, hfz16_0, hfz16_1⟩ := b2_ BK227) | ((with_reducible refine gate_dst (N := 16) rfl ?_); refine Kd.R_lit (Kd.int .i64) _ 3 ?hg (N := 16) ?hd (xs := ([(-1), 13, wrap64 (t221 + 1)] : List Int)) (inner := [.int .i64 (-1), .int .i64 13, .int .i64 (wrap64 (t221 + 1))]) (ok := fun _ => True) (okp := fun _ => True) ?hr ?hp (fun _ hk => hk) trivial (Below.refl _ _) (Nat.le_refl _) (by simp) ?_; (case hd => rfl); (case hg => rfl); (case hr => first | (go_simp; done) | (go_simp; rfl)); (case hp => exact (Reps.one (show Kd.M (Kd.int .i64) _ _ _ (-1) [.int .i64 (-1)] from rfl) (Reps.one (show Kd.M (Kd.int .i64) _ _ _ 13 [.int .i64 13] from rfl) (Reps.one (show Kd.M (Kd.int .i64) _ _ _ (wrap64 (t221 + 1)) [.int .i64 (wrap64 (t221 + 1))] from rfl) (Reps.none _ _))))); intro v232 w17 ho18 hb hg_ hnew_; clear hg_ hnew_; (first | rw [← Ny231.out] at ho18 | (simp only [Int.reduceToNat] at ho18; rw [← Ny231.out] at ho18)); have n0_ := am_ (Kd.N_elder' (n3_ HO224.out) (Kd.R_base ho18) hb); have n1_ := am_ (Kd.R_lower (Kd.R_newM (M := fun k_ => (w.heap.size ≤ k_)) ho18 (kz_ (g := g) ab70_) (fun k_ h_ => h_)) (kz_ (g := g) ab70_)); have n2_ := am_ (IsS75.below ab68_ hb); have n3_ := bkb_ BK217 hb; have n4_ := bkb_ BK227 hb; have n5_ := am_ (KeepBut.trans ab70_ (KeepBut.of_below hb g none) (.inl rfl)); have n6_ := am_ (below_step ab69_ hb); clear HO224; clear HI0; clear BK217; clear BK227; clear HK; clear HB; have HO224 := n0_; have HO233 := n1_; have HI0 := n2_; have BK217 := n3_; have BK227 := n4_; have HK := n5_; have HB := n6_; clear n0_ n1_ n2_ n3_ n4_ n5_ n6_; clear hb ho18; obtain ⟨Ao19, co19, eo19⟩ := Kd.R_slice HO233.out; subst eo19) | ((with_reducible refine gate_callee (f := 40) rfl ?_); refine gsL_ (some 17) Tryz.func40 #[.pointer (some ⟨g, 0, none⟩), .slice Ao19 y231.length co19] ?_; (with_reducible refine (spec_l01PickInt.calls g s0_0 t229 t230 _ _ y231 t234 t235 t236 w0 _ ?side1 ?side2 ?side3 ?side4 ?side5 A6.out).mono ?_); (case side1 => exact ab68_); (case side2 => exact ab69_); (case side3 => exact ck_ (Kd.R_reads' HO233.out).2.2); (case side4 => exact (Kd.R_reads' HO233.out).2.1); (case side5 => exact far_slice (IsS75.own_ne HI0.out HO233.out (by decide))); rintro e w20 ⟨rfl, hi, hb, hk⟩; refine ⟨_, rfl, ?_⟩; have n0_ := am_ (KeepBut.blk hk (g' := gb217) (o := .cells #[.int .i64 0, .slice none 0 0] 26 (0, 0)) (bkx_ BK217.out) NB217_0.out (by simp)); have n1_ := am_ (Kd.N_mono (Kd.N_keep (Kd.N_mono (ok := fun k_ => (((((w.heap.size ≤ k_)) ∧ (k_ ≠ gb217 ∧ k_ ≠ g)) ∧ k_ ≠ gb227) ∧ some k_ ≠ (.slice Ao19 y231.length co19 : Value).ownBlock)) (n3_ HO224.out) (fun k_ hk_ => (⟨hk_, hk_.1.1.2.2⟩ : _ ∧ k_ ≠ g))) hk (fun _ h => h.2)) (fun _ h => h.1)); have n2_ := am_ (KeepBut.blk hk (g' := gb227) (o := .cells #[.int .i64 t221, .slice Ao14 t222.length co14] 26 (0, 0)) (bkx_ BK227.out) NB227_0.out (by simp)); have n3_ := am_ (Kd.R_mono (Kd.R_keep (IsS75.apart (show IsS75 w0 _ g s0_0 t229 t230 from ab68_) (rk_ HO233.out) (by decide)) hk (fun _ h => h.2)) (fun _ h => h.1)); have n4_ := am_ (KeepBut.trans ab70_ hk (.inl rfl)); have n5_ := am_ (hb); have n6_ := am_ (hi); clear BK217; clear HO224; clear BK227; clear HO233; clear HK; clear HB; clear HI0; have BK217 := n0_; have HO224 := n1_; have BK227 := n2_; have HO233 := n3_; have HK := n4_; have HB := n5_; have HI0 := n6_; clear n0_ n1_ n2_ n3_ n4_ n5_ n6_; (try clear hb); obtain ⟨hcz21_0, hcz21_1, hfz21_0, hfz21_1⟩ := b2_ BK227; have hnb22 := NB217_0.out; have hnc22 := NB0_217.out; obtain ⟨hcz23_0, hcz23_1, hfz23_0, hfz23_1⟩ := b2_ BK217))
  (refine bodyPost_ret (results_cell_row rfl _ _ gb217 26 #[.int .i64 t234, .slice Ao14 t222.length co14] (0, 0) _ rfl (by (with_reducible repeat (first | refine blk_drewN ?_ _ | refine blk_drew ?_ | refine blk_alloc ?_ _)); refine blk_put (cs := #[.int .i64 t234, .slice none 0 0]) ?_ 1 _ rfl; (with_reducible repeat (first | refine blk_drewN ?_ _ | refine blk_drew ?_ | refine blk_alloc ?_ _)); refine blk_put (cs := #[.int .i64 0, .slice none 0 0]) ?_ 0 _ rfl; (with_reducible repeat (first | refine blk_drewN ?_ _ | refine blk_drew ?_ | refine blk_alloc ?_ _)); refine blk_far ?_ NB217_227.out _; (with_reducible repeat (first | refine blk_drewN ?_ _ | refine blk_drew ?_ | refine blk_alloc ?_ _)); exact BK217.out) Tryz.underlying26 rfl (by kernel_rfl)) rfl ?_); (exact ⟨_, rr_, by (with_reducible repeat (first | apply Kd.N_alloc | apply Kd.N_drewN | apply Kd.N_drew)); exact Kd.N_mono (Kd.N_far (p := ⟨gb217, 1, none⟩) (Kd.N_far (p := ⟨gb217, 0, none⟩) (Kd.N_far (p := ⟨gb227, 0, none⟩) (Kd.N_mono (Kd.N_mono HO224.out (fun k_ hk => (⟨hk, hk.1.2⟩ : _ ∧ k_ ≠ gb227))) (fun k_ hk => (⟨hk, hk.1.1.1.2.1⟩ : _ ∧ k_ ≠ gb217))) (fun _ hk => hk.1.2) (.int .i64 t234)) (fun _ hk => hk.2) (.int .i64 t234)) (fun _ hk => hk.2) (.slice Ao14 t222.length co14)) (fun _ hk => hk.1.1.1.1.1), ab68_, ab69_, ab70_⟩)
 ·rw [if_neg c5] at H
  have c5b0 : (t228 == 0) = false := beq_eq_false_iff_ne.mpr c5; have c5b1 : (t228 != 0) = true := bne_iff_ne.mpr c5
  by_cases c24 : t228 = 1
  ·rw [if_pos c24] at H
   have c24b0 : (t228 == 1) = true := beq_iff_eq.mpr c24; have c24b1 : (t228 != 1) = false := bne_eq_false_iff_eq.mpr c24; clear c24; replace H := bsi_ H; obtain ⟨⟨t237, t240, t241⟩, A250, H⟩ := H
   try dsimp only at H
   have A25 := am_ A250; clear A250
   by_cases c26 : 0 < (t237.length : Int)
   ·rw [if_pos c26] at H
    have c26b0 := decide_eq_true c26; have c26b1 : decide (0 < t237.length) = true := decide_eq_true (by omega); clear c26; replace H := bsi_ H; obtain ⟨⟨t243, t244, t245⟩, A270, H⟩ := H
    try dsimp only at H
    have A27 := am_ A270; clear A270
    by_cases c28 : t222.length < 4398046511104
    ·rw [if_pos c28] at H
     have LMc28 := am_ c28; clear c28; obtain ⟨y246, hy246⟩ : ∃ y_ : List (S47), y_ = (t222 ++ [(⟨rd_L4 t237 0, t243⟩ : S47)]) := ⟨_, rfl⟩; (replace H : (some (t221, y246, t244, t245)) = some (r1, r2, r3, r4) := by first | (rw [hy246]; with_reducible exact H) | (have H2_ := (Option.bind_some _ _).symm.trans H; rw [hy246]; with_reducible exact H2_) | (have H2_ := (Option.bind_some _ _).symm.trans H; with_reducible exact H2_) | with_reducible exact H | (rw [hy246]; exact H) | exact H); have Ny246 := am_ hy246; clear hy246; simp only [Option.some.injEq, Prod.mk.injEq] at H; obtain ⟨rfl, rfl, rfl, rfl⟩ := H
     go_enter Tryz.func15, Tryz.ntmps15
     try go_wp2_with (first | ((with_reducible refine gate_dst (N := 2) rfl ?_); refine bx_ 2 #[.int .i64 0, .slice none 0 0] 26 ?_; intro gb217 hg w29 hbox hb; have n0_ := am_ (IsS75.below ab34_ hb); have n1_ := am_ (KeepBut.trans ab38_ (KeepBut.of_below hb g none) (.inl rfl)); have n2_ := am_ (below_step ab35_ hb); have n3_ := am_ (hbox); have n4_ := am_ ((by rw [hg]; exact (kz_ (g := g) ab38_) : w.heap.size ≤ gb217)); have n5_ := am_ ((Nat.le_trans HW0.out (by rw [hg]; exact (kz_ (g := g) ab38_) : w.heap.size ≤ gb217) : w0.heap.size ≤ gb217)); have n6_ := am_ ((by rw [hg]; exact Nat.ne_of_lt (IsS75.lt (show IsS75 w0 _ g s0_0 s0_1 s0_2 from ab34_)) : g ≠ gb217)); have n7_ := am_ ((by rw [hg]; exact Nat.ne_of_gt (IsS75.lt (show IsS75 w0 _ g s0_0 s0_1 s0_2 from ab34_)) : gb217 ≠ g)); clear HI0; clear HK; clear HB; have HI0 := n0_; have HK := n1_; have HB := n2_; have BK217 := n3_; have GW217 := n4_; have GE217 := n5_; have NB0_217 := n6_; have NB217_0 := n7_; clear n0_ n1_ n2_ n3_ n4_ n5_ n6_ n7_; clear hb hbox hg) | ((with_reducible refine gate_callee (f := 23) rfl ?_); refine gsL_ (some 6) Tryz.func23 #[.pointer (some ⟨g, 0, none⟩), .int .i64 4] ?_; (with_reducible refine (spec_l01Below.calls g s0_0 s0_1 s0_2 4 t218 t219 t220 w0 _ ?side1 ?side2 A2.out).mono ?_); (case side1 => exact ab65_); (case side2 => exact ab66_); rintro e w30 ⟨rfl, hi, hb, hk⟩; refine ⟨_, rfl, ?_⟩; replace BK217 := am_ (KeepBut.blk hk (g' := gb217) (o := .cells #[.int .i64 0, .slice none 0 0] 26 (0, 0)) (bkx_ BK217.out) NB217_0.out (by simp)); replace HK := am_ (KeepBut.trans ab67_ hk (.inl rfl)); replace HI0 := am_ (hi); replace HB := am_ (hb); (try clear hb)) | ((with_reducible refine gate_callee (f := 39) rfl ?_); refine gsL_ (some 7) Tryz.func39 #[.pointer (some ⟨g, 0, none⟩), .int .i64 t218, .bool true] ?_; (with_reducible refine (spec_l02Bag.calls k g s0_0 t219 t220 t218 true t221 t222 t225 t226 w0 _ ?side1 ?side2 A3.out).mono ?_); (case side1 => exact ab65_); (case side2 => exact ab66_); rintro e w31 ⟨v223, rfl, ho0, hi, hb, hk⟩; refine ⟨_, rfl, ?_⟩; have HO224 := am_ (Kd.N_lower (Kd.N_mono (ok' := fun k_ => (w.heap.size ≤ k_) ∧ k_ ≠ gb217 ∧ k_ ≠ g) ho0 (fun k_ hk_ => ⟨(Nat.le_trans (kz_ (g := g) ab67_) hk_), (Kd.freshB (g := gb217) (o := .cells #[.int .i64 0, .slice none 0 0] 26 (0, 0)) (bkx_ BK217.out) k_ hk_), (IsS75.fresh ab65_ k_ hk_)⟩)) (kz_ (g := g) ab67_)); replace BK217 := am_ (KeepBut.blk hk (g' := gb217) (o := .cells #[.int .i64 0, .slice none 0 0] 26 (0, 0)) (bkx_ BK217.out) NB217_0.out (by simp)); replace HK := am_ (KeepBut.trans ab67_ hk (.inl rfl)); replace HI0 := am_ (hi); replace HB := am_ (hb); (try clear hb); (try clear ho0)) | ((with_reducible refine gate_dst (N := 3) rfl ?_); refine bx_ 3 #[.int .i64 0, .slice none 0 0] 26 ?_; intro gb227 hg w32 hbox hb; have n0_ := am_ (Kd.N_below (Kd.N_elderB (n3_ HO224.out) gb227 (Nat.le_of_eq hg.symm)) hb); have n1_ := am_ (IsS75.below ab65_ hb); have n2_ := bkb_ BK217 hb; have n3_ := am_ (KeepBut.trans ab67_ (KeepBut.of_below hb g none) (.inl rfl)); have n4_ := am_ (below_step ab66_ hb); have n5_ := am_ (hbox); have n6_ := am_ ((by rw [hg]; exact (kz_ (g := g) ab67_) : w.heap.size ≤ gb227)); have n7_ := am_ ((Nat.le_trans HW0.out (by rw [hg]; exact (kz_ (g := g) ab67_) : w.heap.size ≤ gb227) : w0.heap.size ≤ gb227)); have n8_ := nl_ hg BK217; have n9_ := ng_ hg BK217; have n10_ := am_ ((by rw [hg]; exact Nat.ne_of_lt (IsS75.lt (show IsS75 w0 _ g s0_0 t225 t226 from ab65_)) : g ≠ gb227)); have n11_ := am_ ((by rw [hg]; exact Nat.ne_of_gt (IsS75.lt (show IsS75 w0 _ g s0_0 t225 t226 from ab65_)) : gb227 ≠ g)); clear HO224; clear HI0; clear BK217; clear HK; clear HB; have HO224 := n0_; have HI0 := n1_; have BK217 := n2_; have HK := n3_; have HB := n4_; have BK227 := n5_; have GW227 := n6_; have GE227 := n7_; have NB217_227 := n8_; have NB227_217 := n9_; have NB0_227 := n10_; have NB227_0 := n11_; clear n0_ n1_ n2_ n3_ n4_ n5_ n6_ n7_ n8_ n9_ n10_ n11_; clear hb hbox hg; have hnb33 := NB227_217.out; have hnc33 := NB217_227.out; have hnb34 := NB227_0.out; have hnc34 := NB0_227.out; obtain ⟨hcz35_0, hcz35_1, hfz35_0, hfz35_1⟩ := b2_ BK227; obtain ⟨Ao36, co36, eo36⟩ := Kd.N_slice HO224.out; subst eo36) | ((with_reducible refine gate_callee (f := 23) rfl ?_); refine gsL_ (some 9) Tryz.func23 #[.pointer (some ⟨g, 0, none⟩), .int .i64 16] ?_; (with_reducible refine (spec_l01Below.calls g s0_0 t225 t226 16 t228 t229 t230 w0 _ ?side1 ?side2 A4.out).mono ?_); (case side1 => exact ab68_); (case side2 => exact ab69_); rintro e w37 ⟨rfl, hi, hb, hk⟩; refine ⟨_, rfl, ?_⟩; replace BK217 := am_ (KeepBut.blk hk (g' := gb217) (o := .cells #[.int .i64 0, .slice none 0 0] 26 (0, 0)) (bf2_ NB217_227 (bkx_ BK217.out)) NB217_0.out (by simp)); replace HO224 := am_ (Kd.N_mono (Kd.N_keep (Kd.N_mono (ok := fun k_ => ((((w.heap.size ≤ k_)) ∧ (k_ ≠ gb217 ∧ k_ ≠ g)) ∧ k_ ≠ gb227)) (n3_ (Kd.N_mono (Kd.N_far (p := ⟨gb227, 1, none⟩) (Kd.N_far (p := ⟨gb227, 0, none⟩) (Kd.N_mono HO224.out (fun k_ hk => (⟨hk, hk.2⟩ : _ ∧ k_ ≠ gb227))) (fun _ hk => hk.2) (.int .i64 t221)) (fun _ hk => hk.2) (.slice Ao36 t222.length co36)) (fun _ h_ => h_.1))) (fun k_ hk_ => (⟨hk_, hk_.1.2.2⟩ : _ ∧ k_ ≠ g))) hk (fun _ h => h.2)) (fun _ h => h.1)); replace BK227 := am_ (KeepBut.blk hk (g' := gb227) (o := .cells #[.int .i64 t221, .slice Ao36 t222.length co36] 26 (0, 0)) (bp2_ (bkx_ BK227.out)) NB227_0.out (by simp)); replace HK := am_ (KeepBut.trans ab70_ hk (.inl rfl)); replace HI0 := am_ (hi); replace HB := am_ (hb); (try clear hb)))
     replace HO224 := am_ (Kd.N_drew HO224.out); replace BK217 := am_ (blk_drew BK217.out); replace BK227 := am_ (blk_drew BK227.out); replace HI0 := am_ (IsS75.drew HI0.out); replace HK := am_ (keep_drew HK.out); replace HB := am_ (below_drew1 HB.out); (refine start_ (n := 15) (S := fun w' => w'.cell? ⟨gb227, 0, none⟩ = some (.int .i64 t221) ∧ w'.cell? ⟨gb227, 1, none⟩ = some (.slice Ao36 t222.length co36)) (ds := [12, 14]) (tf 0 15) (by kernel_rfl) rfl rfl ⟨bc_ BK227 0, bc_ BK227 1⟩ (fun hHeld => ?_); refine with_tabW spec_l02Any.tab6 spec_l02Any.bits6 (fun HT_ HW_ => ?_)); generalize w37.drew = w38 at HO224 BK217 BK227 HI0 HK HB hHeld ⊢; refine pl_ ?_; refine plx_ 2 #[true, false, true, false, false, false, false, false, false, false, false, false, false, false, false] ?_; refine plx_ 3 #[true, false, true, true, false, false, false, false, false, false, false, false, false, false, false] ?_; refine plx_ 8 #[true, false, true, true, false, false, false, false, true, false, false, false, false, false, false] ?_; refine tlx_ 1 #[true, true, true, true, false, false, false, false, true, false, false, false, false, false, false] ?_; refine tlx_ 4 #[true, true, true, true, true, false, false, false, true, false, false, false, false, false, false] ?_; refine on1_ (i := 5) (N := some 26) #[true, true, true, true, true, true, false, false, true, false, false, false, false, false, false] (h := fun K hK => ?_); refine gs_ Tryz.func41 #[.pointer (some ⟨g, 0, none⟩), .int .i64 t221, .int .i64 1] ?_; (with_reducible refine (spec_l02Rows.calls k g s0_0 t229 t230 t221 1 t237 t240 t241 w0 _ ?side1 ?side2 A25.out).mono ?_); (case side1 => exact ab68_); (case side2 => exact ab69_); rintro e w39 ⟨v238, rfl, ho0, hi, hb, hk⟩; refine ⟨_, rfl, ?_⟩; (have HO239 := am_ (Kd.N_lower (Kd.N_mono (ok' := fun k_ => (w.heap.size ≤ k_) ∧ some k_ ≠ (.slice Ao36 t222.length co36 : Value).ownBlock ∧ k_ ≠ gb217 ∧ k_ ≠ gb227 ∧ k_ ≠ g) (Kd.S_N (Kd.S_bound ho0)) (fun k_ hk_ => ⟨(Nat.le_trans (kz_ (g := g) ab70_) hk_.2.1), (Kd.fresh' (Kd.N_lt (n3_ HO224.out)) k_ hk_.2.1), (Kd.freshB (g := gb217) (o := .cells #[.int .i64 0, .slice none 0 0] 26 (0, 0)) (bkx_ BK217.out) k_ hk_.2.1), (Kd.freshB (g := gb227) (o := .cells #[.int .i64 t221, .slice Ao36 t222.length co36] 26 (0, 0)) (bkx_ BK227.out) k_ hk_.2.1), (IsS75.fresh ab68_ k_ hk_.2.1)⟩)) (kz_ (g := g) ab70_))); replace BK217 := am_ (KeepBut.blk hk (g' := gb217) (o := .cells #[.int .i64 0, .slice none 0 0] 26 (0, 0)) (bkx_ BK217.out) NB217_0.out (by simp)); (replace HO224 := am_ (Kd.N_mono (Kd.N_told (Kd.N_oldK (Kd.N_mono (ok := fun k_ => ((((w.heap.size ≤ k_)) ∧ (k_ ≠ gb217 ∧ k_ ≠ g)) ∧ k_ ≠ gb227)) (n3_ HO224.out) (fun k_ hk_ => (⟨hk_, hk_.1.2.2⟩ : _ ∧ k_ ≠ g))) hk) (Kd.S_base ho0)) (fun _ h_ => h_.1))); replace BK227 := am_ (KeepBut.blk hk (g' := gb227) (o := .cells #[.int .i64 t221, .slice Ao36 t222.length co36] 26 (0, 0)) (bkx_ BK227.out) NB227_0.out (by simp)); replace HK := am_ (KeepBut.trans ab70_ hk (.inl rfl)); replace HI0 := am_ (hi); replace HB := am_ (hb); (try clear hb); (try clear ho0); obtain ⟨Ao40, co40, eo40⟩ := Kd.N_slice HO239.out; (first | subst eo40 | (injection eo40 with f1_ f2_ f3_; have f4_ := f1_.symm; have f5_ := f3_.symm; clear f1_ f2_ f3_; subst f4_; subst f5_)); have p242 : 0 ≤ (0 : Int) := (by omega); (have q242 : 0 < (t237.length : Int) := oa_); obtain ⟨ad242, A242_0, c242_0, e242, hx242_0, hl242_0, hi242_0⟩ := at_L4 (Kd.N_reads' HO239.out).2.2 0 p242 q242; cases e242; (obtain ⟨ce242, hce242, hMe242, hcc242⟩ := Kd.N_get HO239.out [] 0 p242 (by first | exact q242 | exact oa_ | (have e_ := (Kd.N_reads' HO239.out).1; omega))); obtain ⟨ua242_0, uc242_0, rfl, ul242_0, ge242_0⟩ := Kd.FK_slice_open hMe242
     have hv242_0 := hcc242 0 _ rfl; rw [Nat.add_zero, show ((Kd.slice 50 k50)).sz = 1 from rfl, Nat.mul_one] at hv242_0; replace hv242_0 := Option.some.inj (hv242_0.symm.trans hx242_0); injection hv242_0 with hva_ hvn_ hvc_; rw [hva_] at ge242_0; rw [hvc_] at ul242_0; have HL242_0 := am_ (show Kd.V k50 50 _ w.heap.size _ _ (rd_L4 t237 0) from Kd.V_mk ul242_0 ge242_0); clear hva_ hvn_ hvc_ ge242_0 ul242_0; clear hcc242 hce242; have qi242 : (0 < t237.length) = True := eq_true (by omega); (try rw [show ((0 : Int)).toNat = 0 from rfl] at hx242_0); (try rw [Addr.add_zero'] at hx242_0); have HR242_0 := am_ hi242_0; have HC242_0 := am_ hl242_0; clear hi242_0 hl242_0; replace p242 := eq_true p242; replace q242 := eq_true q242; refine hK.out _ _ ⟨bc_ BK227 0, bc_ BK227 1⟩ (fun hHeld => ?_); clear hK K; refine nm_ ?_; refine plx_ 6 #[true, true, true, true, true, true, true, false, true, false, false, false, false, false, false] ?_; refine join_ (σ := Unit) 5 (tf 10 5) (fun _ => [(28, .slice A242_0 (rd_L4 t237 0).length c242_0), (30, .int .i64 t243)]) (fun _ w' => (w'.cell? ⟨gb227, 0, none⟩ = some (.int .i64 t221) ∧ w'.cell? ⟨gb227, 1, none⟩ = some (.slice Ao36 t222.length co36)) ∧ Aside0 (w'.heap[gb217]? = some (.cells #[.int .i64 0, .slice none 0 0] 26 (0, 0))) ∧ Aside0 (w'.heap[gb227]? = some (.cells #[.int .i64 t221, .slice Ao36 t222.length co36] 26 (0, 0))) ∧ Aside0 (Kd.N k47 47 w' w.heap.size (fun k_ => (((((w.heap.size ≤ k_)) ∧ (k_ ≠ gb217 ∧ k_ ≠ g)) ∧ k_ ≠ gb227) ∧ some k_ ≠ (.slice (some ad242) t237.length co40 : Value).ownBlock)) (.slice Ao36 t222.length co36) t222) ∧ Aside0 (Kd.N (Kd.slice 50 k50) 45 w' w.heap.size (fun k_ => (((w.heap.size ≤ k_)) ∧ (some k_ ≠ (.slice Ao36 t222.length co36 : Value).ownBlock ∧ (k_ ≠ gb217 ∧ (k_ ≠ gb227 ∧ k_ ≠ g))))) (.slice (some ad242) t237.length co40) t237) ∧ Aside0 (Kd.V k50 50 w' w.heap.size (fun k_ => ((((w.heap.size ≤ k_)) ∧ (some k_ ≠ (.slice Ao36 t222.length co36 : Value).ownBlock ∧ (k_ ≠ gb217 ∧ (k_ ≠ gb227 ∧ k_ ≠ g)))) ∧ some k_ ≠ (.slice (some ad242) t237.length co40 : Value).ownBlock)) (.slice A242_0 (rd_L4 t237 0).length c242_0) (rd_L4 t237 0)) ∧ Aside0 (KeepBut w w' g none) ∧ Aside0 (IsS75 w0 w' g s0_0 t244 t245) ∧ Aside0 (Below w0.heap.size w0 w')) ?_ ?_; rotate_left
     ·intro hJ
      refine two_ (i := 7) (j := 9) (Ni := some 28) (Nj := some 30) (tf 9 6) #[true, true, true, true, true, true, true, false, true, true, false, false, false, false, false] rfl rfl rfl rfl (two_of HT_.out (by kernel_rfl)) (by decide) (by decide) (fun K hK => ?_) (fun K hK => ?_)
      ·refine value_ (w1 := w39) (v := .slice A242_0 (rd_L4 t237 0).length c242_0) (by rfl) rfl ?_ ?_
       ·go_simp
       refine hK.out _ _ ⟨bc_ BK227 0, bc_ BK227 1⟩ (fun hHeld => ?_); clear hK K; refine nm_ ?_; refine on1_ (i := 9) (N := some 30) (tf 10 5) (h := fun K hK => ?_); refine gs_ Tryz.func23 #[.pointer (some ⟨g, 0, none⟩), .int .i64 3] ?_; (with_reducible refine (spec_l01Below.calls g s0_0 t240 t241 3 t243 t244 t245 w0 _ ?side1 ?side2 A27.out).mono ?_); (case side1 => exact ab68_); (case side2 => exact ab69_); rintro e w41 ⟨rfl, hi, hb, hk⟩; refine ⟨_, rfl, ?_⟩; replace BK217 := am_ (KeepBut.blk hk (g' := gb217) (o := .cells #[.int .i64 0, .slice none 0 0] 26 (0, 0)) (bkx_ BK217.out) NB217_0.out (by simp)); (replace HO224 := am_ (Kd.N_mono (Kd.N_keep (Kd.N_mono (ok := fun k_ => (((((w.heap.size ≤ k_)) ∧ (k_ ≠ gb217 ∧ k_ ≠ g)) ∧ k_ ≠ gb227) ∧ some k_ ≠ (.slice (some ad242) t237.length co40 : Value).ownBlock)) (n3_ HO224.out) (fun k_ hk_ => (⟨hk_, hk_.1.1.2.2⟩ : _ ∧ k_ ≠ g))) hk (fun _ h => h.2)) (fun _ h => h.1))); replace BK227 := am_ (KeepBut.blk hk (g' := gb227) (o := .cells #[.int .i64 t221, .slice Ao36 t222.length co36] 26 (0, 0)) (bkx_ BK227.out) NB227_0.out (by simp)); (replace HO239 := am_ (Kd.N_mono (Kd.N_keep (Kd.N_mono (ok := fun k_ => (((w.heap.size ≤ k_)) ∧ (some k_ ≠ (.slice Ao36 t222.length co36 : Value).ownBlock ∧ (k_ ≠ gb217 ∧ (k_ ≠ gb227 ∧ k_ ≠ g))))) (n3_ HO239.out) (fun k_ hk_ => (⟨hk_, hk_.2.2.2.2⟩ : _ ∧ k_ ≠ g))) hk (fun _ h => h.2)) (fun _ h => h.1))); (replace HL242_0 := am_ (Kd.V_mono (Kd.V_keep (Kd.V_mono (ok := fun k_ => ((((w.heap.size ≤ k_)) ∧ (some k_ ≠ (.slice Ao36 t222.length co36 : Value).ownBlock ∧ (k_ ≠ gb217 ∧ (k_ ≠ gb227 ∧ k_ ≠ g)))) ∧ some k_ ≠ (.slice (some ad242) t237.length co40 : Value).ownBlock)) (v3_ HL242_0.out) (fun k_ hk_ => (⟨hk_, hk_.1.2.2.2.2⟩ : _ ∧ k_ ≠ g))) hk (fun _ h => h.2)) (fun _ h => h.1))); replace HK := am_ (KeepBut.trans ab70_ hk (.inl rfl)); replace HI0 := am_ (hi); replace HB := am_ (hb); (try clear hb); refine hK.out _ _ ⟨bc_ BK227 0, bc_ BK227 1⟩ (fun hHeld => ?_); refine nm_ ?_; exact nrm_ (hJ () _ ⟨⟨bc_ BK227 0, bc_ BK227 1⟩, BK217, BK227, HO224, HO239, HL242_0, HK, HI0, HB⟩)
      ·skip
       refine gs_ Tryz.func23 #[.pointer (some ⟨g, 0, none⟩), .int .i64 3] ?_; (with_reducible refine (spec_l01Below.calls g s0_0 t240 t241 3 t243 t244 t245 w0 _ ?side1 ?side2 A27.out).mono ?_); (case side1 => exact ab68_); (case side2 => exact ab69_); rintro e w41 ⟨rfl, hi, hb, hk⟩; (have HS2_ := keep_cell hk hx242_0 (by first | (rw [add_block]; exact Kd.own_blk (IsS75.own_neN HI0.out HO239.out (by decide))) | (show (Addr.add _ _).block ≠ _; rw [add_block]; exact Kd.own_blk (IsS75.own_neN HI0.out HO239.out (by decide))) | exact Kd.own_blk (IsS75.own_neN HI0.out HO239.out (by decide)))); refine ⟨_, rfl, ?_⟩; replace BK217 := am_ (KeepBut.blk hk (g' := gb217) (o := .cells #[.int .i64 0, .slice none 0 0] 26 (0, 0)) (bkx_ BK217.out) NB217_0.out (by simp)); (replace HO224 := am_ (Kd.N_mono (Kd.N_keep (Kd.N_mono (ok := fun k_ => (((((w.heap.size ≤ k_)) ∧ (k_ ≠ gb217 ∧ k_ ≠ g)) ∧ k_ ≠ gb227) ∧ some k_ ≠ (.slice (some ad242) t237.length co40 : Value).ownBlock)) (n3_ HO224.out) (fun k_ hk_ => (⟨hk_, hk_.1.1.2.2⟩ : _ ∧ k_ ≠ g))) hk (fun _ h => h.2)) (fun _ h => h.1))); replace BK227 := am_ (KeepBut.blk hk (g' := gb227) (o := .cells #[.int .i64 t221, .slice Ao36 t222.length co36] 26 (0, 0)) (bkx_ BK227.out) NB227_0.out (by simp)); (replace HO239 := am_ (Kd.N_mono (Kd.N_keep (Kd.N_mono (ok := fun k_ => (((w.heap.size ≤ k_)) ∧ (some k_ ≠ (.slice Ao36 t222.length co36 : Value).ownBlock ∧ (k_ ≠ gb217 ∧ (k_ ≠ gb227 ∧ k_ ≠ g))))) (n3_ HO239.out) (fun k_ hk_ => (⟨hk_, hk_.2.2.2.2⟩ : _ ∧ k_ ≠ g))) hk (fun _ h => h.2)) (fun _ h => h.1))); (replace HL242_0 := am_ (Kd.V_mono (Kd.V_keep (Kd.V_mono (ok := fun k_ => ((((w.heap.size ≤ k_)) ∧ (some k_ ≠ (.slice Ao36 t222.length co36 : Value).ownBlock ∧ (k_ ≠ gb217 ∧ (k_ ≠ gb227 ∧ k_ ≠ g)))) ∧ some k_ ≠ (.slice (some ad242) t237.length co40 : Value).ownBlock)) (v3_ HL242_0.out) (fun k_ hk_ => (⟨hk_, hk_.1.2.2.2.2⟩ : _ ∧ k_ ≠ g))) hk (fun _ h => h.2)) (fun _ h => h.1))); replace HK := am_ (KeepBut.trans ab70_ hk (.inl rfl)); replace HI0 := am_ (hi); replace HB := am_ (hb); (try clear hb); refine hK.out _ _ ⟨bc_ BK227 0, bc_ BK227 1⟩ (fun hHeld => ?_); clear hK K; refine nm_ ?_; refine on1_ (i := 7) (N := some 28) (tf 10 5) (h := fun K hK => ?_); refine value_ (w1 := w41) (v := .slice A242_0 (rd_L4 t237 0).length c242_0) (by rfl) rfl ?_ ?_
       ·go_simp
       refine hK.out _ _ ⟨bc_ BK227 0, bc_ BK227 1⟩ (fun hHeld => ?_); refine nm_ ?_; exact nrm_ (hJ () _ ⟨⟨bc_ BK227 0, bc_ BK227 1⟩, BK217, BK227, HO224, HO239, HL242_0, HK, HI0, HB⟩)
     clear hHeld BK217 BK227 HO224 HO239 HL242_0 HK HI0 HB hx242_0; rintro _ w41 ⟨hHeld, BK217, BK227, HO224, HO239, HL242_0, HK, HI0, HB⟩; refine nrm_ ?_; refine plx_ 10 (tf 11 4) ?_; refine on1_ (i := 11) (N := some 32) (tf 12 3) (h := fun K hK => ?_); refine value_ (w1 := ?_) (v := ?_) (by rfl) rfl ?_ ?_; rotate_left 2
     ·go_simp
      constructor
      ·rfl
      ·rfl
     refine hK.out _ _ ⟨(blk_cell (blk_alloc BK227.out _) 0).trans rfl, (blk_cell (blk_alloc BK227.out _) 1).trans rfl⟩ (fun hHeld => ?_); clear hK K; refine nm_ ?_; refine last_ (i := 12) (N := some 33) (tf 13 2) rfl rfl (one_of HT_.out (by kernel_rfl)) (by decide) (fun K hK => ?_); refine Kd.N_append_step k47 w.heap.size (by rfl) (.tmp 22) (.tmp 32) 24 47 (.agg #[(.slice none 0 0), (.int .i64 0)]) 32 rfl Tryz.underlying24 info47 rfl (by decide) (by omega) (.slice Ao36 t222.length co36) t222 (⟨rd_L4 t237 0, t243⟩ : S47) [.slice A242_0 (rd_L4 t237 0).length c242_0, .int .i64 t243] (fun k_ => (w.heap.size ≤ k_) ∧ some k_ ≠ (.slice (some ad242) t237.length co40 : Value).ownBlock ∧ k_ ≠ gb217 ∧ k_ ≠ gb227 ∧ k_ ≠ g) (fun k_ => ((fun k_ => (w.heap.size ≤ k_) ∧ some k_ ≠ (.slice (some ad242) t237.length co40 : Value).ownBlock ∧ k_ ≠ gb217 ∧ k_ ≠ gb227 ∧ k_ ≠ g)) k_ ∧ some k_ ≠ (.slice Ao36 t222.length co36 : Value).ownBlock) rfl rfl ?aP (fun _ hk => hk) ?aF ?aO (Below.refl _ _) ?aS ?aL ?_; (case aP => exact (k47_mkF _ _ (⟨rd_L4 t237 0, t243⟩ : S47) (Kd.V_reads' (Kd.V_mono (ok' := (fun k_ => ((fun k_ => (w.heap.size ≤ k_) ∧ some k_ ≠ (.slice (some ad242) t237.length co40 : Value).ownBlock ∧ k_ ≠ gb217 ∧ k_ ≠ gb227 ∧ k_ ≠ g)) k_ ∧ some k_ ≠ (.slice Ao36 t222.length co36 : Value).ownBlock)) (HL242_0.out) (fun k_ hk => ⟨⟨hk.1.1, ⟨hk.2, ⟨hk.1.2.2.1, ⟨hk.1.2.2.2.1, hk.1.2.2.2.2⟩⟩⟩⟩, hk.1.2.1⟩))).2.1 (Kd.V_F (Kd.V_mono (ok' := (fun k_ => ((fun k_ => (w.heap.size ≤ k_) ∧ some k_ ≠ (.slice (some ad242) t237.length co40 : Value).ownBlock ∧ k_ ≠ gb217 ∧ k_ ≠ gb227 ∧ k_ ≠ g)) k_ ∧ some k_ ≠ (.slice Ao36 t222.length co36 : Value).ownBlock)) (HL242_0.out) (fun k_ hk => ⟨⟨hk.1.1, ⟨hk.2, ⟨hk.1.2.2.1, ⟨hk.1.2.2.2.1, hk.1.2.2.2.2⟩⟩⟩⟩, hk.1.2.1⟩))))); (case aF => exact (fun k_ hk => ⟨(Nat.le_trans (kz_ (g := g) ab70_) hk), Kd.fresh' (Kd.N_lt (n3_ HO239.out)) k_ hk, Kd.freshB (g := gb217) (o := .cells #[.int .i64 0, .slice none 0 0] 26 (0, 0)) (bkx_ BK217.out) k_ hk, Kd.freshB (g := gb227) (o := .cells #[.int .i64 t221, .slice Ao36 t222.length co36] 26 (0, 0)) (bkx_ BK227.out) k_ hk, IsS75.fresh ab68_ k_ hk⟩)); (case aO => exact (n3_ (Kd.N_mono HO224.out (fun _ hk => ⟨hk.1.1.1, ⟨hk.2, ⟨hk.1.1.2.1, ⟨hk.1.2, hk.1.1.2.2⟩⟩⟩⟩)))); (case aS => exact (kz_ (g := g) ab70_)); (case aL => have := LMc28.out; omega); intro v247 w42 ho hb hg hat; rw [← Ny246.out] at ho; have n0_ := am_ (IsS75.grown ab68_ hg (IsS75.own_neN HI0.out HO224.out (by decide))); have n1_ := am_ (blk_grown (g := gb217) (o := .cells #[.int .i64 0, .slice none 0 0] 26 (0, 0)) (bkx_ BK217.out) hg (Kd.N_ne HO224.out BK217.out (by decide))); have n2_ := am_ (blk_grown (g := gb227) (o := .cells #[.int .i64 t221, .slice Ao36 t222.length co36] 26 (0, 0)) (bkx_ BK227.out) hg (Kd.N_ne HO224.out BK227.out (by decide))); (have n3_ := am_ (Kd.N_afterv (ok := (fun k_ => (w.heap.size ≤ k_) ∧ k_ ≠ gb217 ∧ k_ ≠ gb227 ∧ k_ ≠ g)) (n3_ (Kd.N_mono HO239.out (fun _ hk => ⟨⟨hk.1, ⟨hk.2.2.1, ⟨hk.2.2.2.1, hk.2.2.2.2⟩⟩⟩, hk.2.1⟩))) hg hat)); (have n4_ := am_ (Kd.V_afterv (ok := (fun k_ => (w.heap.size ≤ k_) ∧ some k_ ≠ (.slice (some ad242) t237.length co40 : Value).ownBlock ∧ k_ ≠ gb217 ∧ k_ ≠ gb227 ∧ k_ ≠ g)) (v3_ (Kd.V_mono HL242_0.out (fun _ hk => ⟨⟨hk.1.1, ⟨hk.2, ⟨hk.1.2.2.1, ⟨hk.1.2.2.2.1, hk.1.2.2.2.2⟩⟩⟩⟩, hk.1.2.1⟩))) hg hat)); have n5_ := am_ (below_weaken ab69_ HL.out hb); have n6_ := am_ (KeepBut.trans ab70_ (KeepBut.of_grown hg g) (Kd.N_base2 HO224.out)); have n7_ := am_ (ho); clear HI0; clear BK217; clear BK227; clear HO239; clear HL242_0; clear HB; clear HK; clear HO224; have HI0 := n0_; have BK217 := n1_; have BK227 := n2_; have HO239 := n3_
     have HL242_0 := n4_; have HB := n5_; have HK := n6_; have HO248 := n7_; clear n0_ n1_ n2_ n3_ n4_ n5_ n6_ n7_; clear ho hb hg hat; obtain ⟨Ao43, co43, eo43⟩ := Kd.N_slice HO248.out; (first | subst eo43 | (injection eo43 with f1_ f2_ f3_; have f4_ := f1_.symm; have f5_ := f3_.symm; clear f1_ f2_ f3_; subst f4_; subst f5_)); refine hK.out _ _ ?_; clear hK K; refine nm_ ?_; refine plx_ 13 (tf 14 1) ?_; refine last_ (i := 14) (N := none) (tf 15 0) rfl rfl (one_of HT_.out (by kernel_rfl)) (by decide) (fun K hK => ?_); have hs44 : w42.cell? ⟨gb227, 1, none⟩ = some (.slice Ao36 t222.length co36) := bc_ BK227 1; have hfs44 := blk_frozen BK227.out 1; have hns44_0 := NB217_227.out; have hms44_0 := NB227_217.out; refine skip_ (w1 := ?_) (by rfl) rfl ?_ ?_; rotate_left
     ·go_simp
      rfl
     refine hK.out _ _ ?_; clear hK K; refine done_ (done_of HT_.out (by kernel_rfl)) ?_; obtain ⟨hcz45_0, hcz45_1, hfz45_0, hfz45_1⟩ := b2_ BK227; have hnb46 := NB217_0.out; have hnc46 := NB0_217.out; obtain ⟨hcz47_0, hcz47_1, hfz47_0, hfz47_1⟩ := b2_ BK217
     try go_wp2
     (refine bodyPost_ret (results_cell_row rfl _ _ gb217 26 #[.int .i64 t221, .slice Ao43 y246.length co43] (0, 0) _ rfl (by (with_reducible repeat (first | refine blk_drewN ?_ _ | refine blk_drew ?_ | refine blk_alloc ?_ _)); refine blk_put (cs := #[.int .i64 t221, .slice none 0 0]) ?_ 1 _ rfl; (with_reducible repeat (first | refine blk_drewN ?_ _ | refine blk_drew ?_ | refine blk_alloc ?_ _)); refine blk_put (cs := #[.int .i64 0, .slice none 0 0]) ?_ 0 _ rfl; (with_reducible repeat (first | refine blk_drewN ?_ _ | refine blk_drew ?_ | refine blk_alloc ?_ _)); refine blk_far ?_ NB217_227.out _; (with_reducible repeat (first | refine blk_drewN ?_ _ | refine blk_drew ?_ | refine blk_alloc ?_ _)); exact BK217.out) Tryz.underlying26 rfl (by kernel_rfl)) rfl ?_); (exact ⟨_, rr_, by (with_reducible repeat (first | apply Kd.N_alloc | apply Kd.N_drewN | apply Kd.N_drew)); exact Kd.N_mono (Kd.N_far (p := ⟨gb217, 1, none⟩) (Kd.N_far (p := ⟨gb217, 0, none⟩) (Kd.N_far (p := ⟨gb227, 1, none⟩) (Kd.N_mono (Kd.N_mono HO248.out (fun k_ hk => (⟨hk, hk.2.2.2.1⟩ : _ ∧ k_ ≠ gb227))) (fun k_ hk => (⟨hk, hk.1.2.2.1⟩ : _ ∧ k_ ≠ gb217))) (fun _ hk => hk.1.2) (.slice Ao43 y246.length co43)) (fun _ hk => hk.2) (.int .i64 t221)) (fun _ hk => hk.2) (.slice Ao43 y246.length co43)) (fun _ hk => hk.1.1.1), ab68_, ab69_, ab70_⟩)
    ·rw [if_neg c28] at H
     exact nn_ H
   ·rw [if_neg c26] at H
    exact nn_ H
  ·rw [if_neg c24] at H
   have c24b0 : (t228 == 1) = false := beq_eq_false_iff_ne.mpr c24; have c24b1 : (t228 != 1) = true := bne_iff_ne.mpr c24
   by_cases c48 : t228 = 2
   ·rw [if_pos c48] at H
    have c48b0 : (t228 == 2) = true := beq_iff_eq.mpr c48; have c48b1 : (t228 != 2) = false := bne_eq_false_iff_eq.mpr c48; clear c48
    by_cases c49 : (t222.length : Int) > 0
    ·rw [if_pos c49] at H
     have c49b0 := decide_eq_true c49; have c49b1 : decide (0 < t222.length) = true := decide_eq_true (by omega); clear c49; obtain ⟨y249, hy249⟩ : ∃ y_ : List Int, y_ = (([0, 1000000000, 1000000001, (-1000000000)] : List Int)) := ⟨_, rfl⟩; (replace H : ((spec_l01PickInt.f s0_0 t229 t230 y249).bind fun bt252 => (if 0 < (t222.length : Int) then (some (t221, (t222.set (0 : Int).toNat (⟨(rd_T47 t222 0).f0, bt252.1⟩ : S47)), bt252.2.1, bt252.2.2)) else (none))) = some (r1, r2, r3, r4) := by first | (rw [hy249]; with_reducible exact H) | (have H2_ := (Option.bind_some _ _).symm.trans H; rw [hy249]; with_reducible exact H2_) | (have H2_ := (Option.bind_some _ _).symm.trans H; with_reducible exact H2_) | with_reducible exact H | (rw [hy249]; exact H) | exact H); have Ny249 := am_ hy249; clear hy249; replace H := bsi_ H; obtain ⟨⟨t252, t253, t254⟩, A500, H⟩ := H
     try dsimp only at H
     have A50 := am_ A500; clear A500
     by_cases c51 : 0 < (t222.length : Int)
     ·rw [if_pos c51] at H
      have c51b0 := decide_eq_true c51; have c51b1 : decide (0 < t222.length) = true := decide_eq_true (by omega); clear c51; obtain ⟨y255, hy255⟩ : ∃ y_ : List (S47), y_ = (t222.set (0 : Int).toNat (⟨(rd_T47 t222 0).f0, t252⟩ : S47)) := ⟨_, rfl⟩; (replace H : (some (t221, y255, t253, t254)) = some (r1, r2, r3, r4) := by first | (rw [hy255]; with_reducible exact H) | (have H2_ := (Option.bind_some _ _).symm.trans H; rw [hy255]; with_reducible exact H2_) | (have H2_ := (Option.bind_some _ _).symm.trans H; with_reducible exact H2_) | with_reducible exact H | (rw [hy255]; exact H) | exact H); have Ny255 := am_ hy255; clear hy255; simp only [Option.some.injEq, Prod.mk.injEq] at H; obtain ⟨rfl, rfl, rfl, rfl⟩ := H
      go_enter Tryz.func15, Tryz.ntmps15
      try go_wp2_with (first | ((with_reducible refine gate_dst (N := 2) rfl ?_); refine bx_ 2 #[.int .i64 0, .slice none 0 0] 26 ?_; intro gb217 hg w53 hbox hb; have n0_ := am_ (IsS75.below ab34_ hb); have n1_ := am_ (KeepBut.trans ab38_ (KeepBut.of_below hb g none) (.inl rfl)); have n2_ := am_ (below_step ab35_ hb); have n3_ := am_ (hbox); have n4_ := am_ ((by rw [hg]; exact (kz_ (g := g) ab38_) : w.heap.size ≤ gb217)); have n5_ := am_ ((Nat.le_trans HW0.out (by rw [hg]; exact (kz_ (g := g) ab38_) : w.heap.size ≤ gb217) : w0.heap.size ≤ gb217)); have n6_ := am_ ((by rw [hg]; exact Nat.ne_of_lt (IsS75.lt (show IsS75 w0 _ g s0_0 s0_1 s0_2 from ab34_)) : g ≠ gb217)); have n7_ := am_ ((by rw [hg]; exact Nat.ne_of_gt (IsS75.lt (show IsS75 w0 _ g s0_0 s0_1 s0_2 from ab34_)) : gb217 ≠ g)); clear HI0; clear HK; clear HB; have HI0 := n0_; have HK := n1_; have HB := n2_; have BK217 := n3_; have GW217 := n4_; have GE217 := n5_; have NB0_217 := n6_; have NB217_0 := n7_; clear n0_ n1_ n2_ n3_ n4_ n5_ n6_ n7_; clear hb hbox hg) | ((with_reducible refine gate_callee (f := 23) rfl ?_); refine gsL_ (some 6) Tryz.func23 #[.pointer (some ⟨g, 0, none⟩), .int .i64 4] ?_; (with_reducible refine (spec_l01Below.calls g s0_0 s0_1 s0_2 4 t218 t219 t220 w0 _ ?side1 ?side2 A2.out).mono ?_); (case side1 => exact ab65_); (case side2 => exact ab66_); rintro e w54 ⟨rfl, hi, hb, hk⟩; refine ⟨_, rfl, ?_⟩; replace BK217 := am_ (KeepBut.blk hk (g' := gb217) (o := .cells #[.int .i64 0, .slice none 0 0] 26 (0, 0)) (bkx_ BK217.out) NB217_0.out (by simp)); replace HK := am_ (KeepBut.trans ab67_ hk (.inl rfl)); replace HI0 := am_ (hi); replace HB := am_ (hb); (try clear hb)) | ((with_reducible refine gate_callee (f := 39) rfl ?_); refine gsL_ (some 7) Tryz.func39 #[.pointer (some ⟨g, 0, none⟩), .int .i64 t218, .bool true] ?_; (with_reducible refine (spec_l02Bag.calls k g s0_0 t219 t220 t218 true t221 t222 t225 t226 w0 _ ?side1 ?side2 A3.out).mono ?_); (case side1 => exact ab65_); (case side2 => exact ab66_); rintro e w55 ⟨v223, rfl, ho0, hi, hb, hk⟩; refine ⟨_, rfl, ?_⟩; have HO224 := am_ (Kd.N_lower (Kd.N_mono (ok' := fun k_ => (w.heap.size ≤ k_) ∧ k_ ≠ gb217 ∧ k_ ≠ g) ho0 (fun k_ hk_ => ⟨(Nat.le_trans (kz_ (g := g) ab67_) hk_), (Kd.freshB (g := gb217) (o := .cells #[.int .i64 0, .slice none 0 0] 26 (0, 0)) (bkx_ BK217.out) k_ hk_), (IsS75.fresh ab65_ k_ hk_)⟩)) (kz_ (g := g) ab67_)); replace BK217 := am_ (KeepBut.blk hk (g' := gb217) (o := .cells #[.int .i64 0, .slice none 0 0] 26 (0, 0)) (bkx_ BK217.out) NB217_0.out (by simp)); replace HK := am_ (KeepBut.trans ab67_ hk (.inl rfl)); replace HI0 := am_ (hi); replace HB := am_ (hb); (try clear hb); (try clear ho0)) | ((with_reducible refine gate_dst (N := 3) rfl ?_); refine bx_ 3 #[.int .i64 0, .slice none 0 0] 26 ?_; intro gb227 hg w56 hbox hb; have n0_ := am_ (Kd.N_below (Kd.N_elderB (n3_ HO224.out) gb227 (Nat.le_of_eq hg.symm)) hb); have n1_ := am_ (IsS75.below ab65_ hb); have n2_ := bkb_ BK217 hb; have n3_ := am_ (KeepBut.trans ab67_ (KeepBut.of_below hb g none) (.inl rfl)); have n4_ := am_ (below_step ab66_ hb); have n5_ := am_ (hbox); have n6_ := am_ ((by rw [hg]; exact (kz_ (g := g) ab67_) : w.heap.size ≤ gb227)); have n7_ := am_ ((Nat.le_trans HW0.out (by rw [hg]; exact (kz_ (g := g) ab67_) : w.heap.size ≤ gb227) : w0.heap.size ≤ gb227)); have n8_ := nl_ hg BK217; have n9_ := ng_ hg BK217; have n10_ := am_ ((by rw [hg]; exact Nat.ne_of_lt (IsS75.lt (show IsS75 w0 _ g s0_0 t225 t226 from ab65_)) : g ≠ gb227)); have n11_ := am_ ((by rw [hg]; exact Nat.ne_of_gt (IsS75.lt (show IsS75 w0 _ g s0_0 t225 t226 from ab65_)) : gb227 ≠ g)); clear HO224; clear HI0; clear BK217; clear HK; clear HB; have HO224 := n0_; have HI0 := n1_; have BK217 := n2_; have HK := n3_; have HB := n4_; have BK227 := n5_; have GW227 := n6_; have GE227 := n7_; have NB217_227 := n8_; have NB227_217 := n9_; have NB0_227 := n10_; have NB227_0 := n11_; clear n0_ n1_ n2_ n3_ n4_ n5_ n6_ n7_ n8_ n9_ n10_ n11_; clear hb hbox hg; have hnb57 := NB227_217.out; have hnc57 := NB217_227.out; have hnb58 := NB227_0.out; have hnc58 := NB0_227.out; obtain ⟨hcz59_0, hcz59_1, hfz59_0, hfz59_1⟩ := b2_ BK227; obtain ⟨Ao60, co60, eo60⟩ := Kd.N_slice HO224.out; subst eo60) | ((with_reducible refine gate_callee (f := 23) rfl ?_); refine gsL_ (some 9) Tryz.func23 #[.pointer (some ⟨g, 0, none⟩), .int .i64 16] ?_; (with_reducible refine (spec_l01Below.calls g s0_0 t225 t226 16 t228 t229 t230 w0 _ ?side1 ?side2 A4.out).mono ?_); (case side1 => exact ab68_); (case side2 => exact ab69_); rintro e w61 ⟨rfl, hi, hb, hk⟩; refine ⟨_, rfl, ?_⟩; replace BK217 := am_ (KeepBut.blk hk (g' := gb217) (o := .cells #[.int .i64 0, .slice none 0 0] 26 (0, 0)) (bf2_ NB217_227 (bkx_ BK217.out)) NB217_0.out (by simp)); replace HO224 := am_ (Kd.N_mono (Kd.N_keep (Kd.N_mono (ok := fun k_ => ((((w.heap.size ≤ k_)) ∧ (k_ ≠ gb217 ∧ k_ ≠ g)) ∧ k_ ≠ gb227)) (n3_ (Kd.N_mono (Kd.N_far (p := ⟨gb227, 1, none⟩) (Kd.N_far (p := ⟨gb227, 0, none⟩) (Kd.N_mono HO224.out (fun k_ hk => (⟨hk, hk.2⟩ : _ ∧ k_ ≠ gb227))) (fun _ hk => hk.2) (.int .i64 t221)) (fun _ hk => hk.2) (.slice Ao60 t222.length co60)) (fun _ h_ => h_.1))) (fun k_ hk_ => (⟨hk_, hk_.1.2.2⟩ : _ ∧ k_ ≠ g))) hk (fun _ h => h.2)) (fun _ h => h.1)); replace BK227 := am_ (KeepBut.blk hk (g' := gb227) (o := .cells #[.int .i64 t221, .slice Ao60 t222.length co60] 26 (0, 0)) (bp2_ (bkx_ BK227.out)) NB227_0.out (by simp)); replace HK := am_ (KeepBut.trans ab70_ hk (.inl rfl)); replace HI0 := am_ (hi); replace HB := am_ (hb); (try clear hb); obtain ⟨hcz62_0, hcz62_1, hfz62_0, hfz62_1⟩ := b2_ BK227))
      replace HO224 := am_ (Kd.N_drew HO224.out); replace BK217 := am_ (blk_drew BK217.out); replace BK227 := am_ (blk_drew BK227.out); replace HI0 := am_ (IsS75.drew HI0.out); replace HK := am_ (keep_drew HK.out); replace HB := am_ (below_drew1 HB.out); (refine start_ (n := 8) (S := fun w' => w'.cell? ⟨gb227, 0, none⟩ = some (.int .i64 t221) ∧ w'.cell? ⟨gb227, 1, none⟩ = some (.slice Ao60 t222.length co60)) (ds := [7]) (tf 0 8) (by kernel_rfl) rfl rfl ⟨bc_ BK227 0, bc_ BK227 1⟩ (fun hHeld => ?_); refine with_tabW spec_l02Any.tab9 spec_l02Any.bits9 (fun HT_ HW_ => ?_)); generalize w61.drew = w63 at HO224 BK217 BK227 HI0 HK HB hHeld ⊢; refine pl_ ?_; refine plx_ 2 #[true, false, true, false, false, false, false, false] ?_; refine tlx_ 1 (tf 3 5) ?_; refine on1_ (i := 3) (N := some 44) (tf 4 4) (h := fun K hK => ?_); (refine Kd.R_lit_step (Kd.int .i64) _ 3 ?hg (N := 44) ?hd (xs := ([0, 1000000000, 1000000001, (-1000000000)] : List Int)) (inner := [.int .i64 0, .int .i64 1000000000, .int .i64 1000000001, .int .i64 (-1000000000)]) (ok := fun _ => True) (okp := fun _ => True) ?hr ?hp (fun _ hk => hk) trivial (Below.refl _ _) (Nat.le_refl _) (by simp) ?_; (case hd => rfl); (case hg => rfl); (case hr => first | (go_simp; done) | (go_simp; rfl)); (case hp => exact (Reps.one (show Kd.M (Kd.int .i64) _ _ _ 0 [.int .i64 0] from rfl) (Reps.one (show Kd.M (Kd.int .i64) _ _ _ 1000000000 [.int .i64 1000000000] from rfl) (Reps.one (show Kd.M (Kd.int .i64) _ _ _ 1000000001 [.int .i64 1000000001] from rfl) (Reps.one (show Kd.M (Kd.int .i64) _ _ _ (-1000000000) [.int .i64 (-1000000000)] from rfl) (Reps.none _ _))))))); intro v250 w64 ho65 hb hg_ hnew_; clear hg_ hnew_; (first | rw [← Ny249.out] at ho65 | (simp only [Int.reduceToNat] at ho65; rw [← Ny249.out] at ho65)); have n0_ := am_ (Kd.N_elder' (n3_ HO224.out) (Kd.R_base ho65) hb); (have n1_ := am_ (Kd.R_lower (Kd.R_newM (M := fun k_ => (w.heap.size ≤ k_)) ho65 (kz_ (g := g) ab70_) (fun k_ h_ => h_)) (kz_ (g := g) ab70_))); have n2_ := am_ (IsS75.below ab68_ hb); have n3_ := bkb_ BK217 hb; have n4_ := bkb_ BK227 hb; have n5_ := am_ (KeepBut.trans ab70_ (KeepBut.of_below hb g none) (.inl rfl)); have n6_ := am_ (below_step ab69_ hb); clear HO224; clear HI0; clear BK217; clear BK227; clear HK; clear HB; have HO224 := n0_; have HO251 := n1_; have HI0 := n2_; have BK217 := n3_; have BK227 := n4_; have HK := n5_; have HB := n6_; clear n0_ n1_ n2_ n3_ n4_ n5_ n6_; clear hb ho65; obtain ⟨Ao66, co66, eo66⟩ := Kd.R_slice HO251.out; (first | subst eo66 | (injection eo66 with f1_ f2_ f3_; have f4_ := f1_.symm; have f5_ := f3_.symm; clear f1_ f2_ f3_; subst f4_; subst f5_)); refine hK.out _ _ ⟨bc_ BK227 0, bc_ BK227 1⟩ (fun hHeld => ?_); clear hK K; refine nm_ ?_; refine on1_ (i := 4) (N := some 45) (tf 5 3) (h := fun K hK => ?_); refine gs_ Tryz.func40 #[.pointer (some ⟨g, 0, none⟩), .slice Ao66 y249.length co66] ?_; (with_reducible refine (spec_l01PickInt.calls g s0_0 t229 t230 _ _ y249 t252 t253 t254 w0 _ ?side1 ?side2 ?side3 ?side4 ?side5 A50.out).mono ?_); (case side1 => exact ab68_); (case side2 => exact ab69_); (case side3 => exact ck_ (Kd.R_reads' HO251.out).2.2); (case side4 => exact (Kd.R_reads' HO251.out).2.1); (case side5 => exact far_slice (IsS75.own_ne HI0.out HO251.out (by decide))); rintro e w67 ⟨rfl, hi, hb, hk⟩; refine ⟨_, rfl, ?_⟩; have n0_ := am_ (KeepBut.blk hk (g' := gb217) (o := .cells #[.int .i64 0, .slice none 0 0] 26 (0, 0)) (bkx_ BK217.out) NB217_0.out (by simp)); (have n1_ := am_ (Kd.N_mono (Kd.N_keep (Kd.N_mono (ok := fun k_ => (((((w.heap.size ≤ k_)) ∧ (k_ ≠ gb217 ∧ k_ ≠ g)) ∧ k_ ≠ gb227) ∧ some k_ ≠ (.slice Ao66 y249.length co66 : Value).ownBlock)) (n3_ HO224.out) (fun k_ hk_ => (⟨hk_, hk_.1.1.2.2⟩ : _ ∧ k_ ≠ g))) hk (fun _ h => h.2)) (fun _ h => h.1)))
      have n2_ := am_ (KeepBut.blk hk (g' := gb227) (o := .cells #[.int .i64 t221, .slice Ao60 t222.length co60] 26 (0, 0)) (bkx_ BK227.out) NB227_0.out (by simp)); have n3_ := am_ (Kd.R_mono (Kd.R_keep (IsS75.apart (show IsS75 w0 _ g s0_0 t229 t230 from ab68_) (rk_ HO251.out) (by decide)) hk (fun _ h => h.2)) (fun _ h => h.1)); have n4_ := am_ (KeepBut.trans ab70_ hk (.inl rfl)); have n5_ := am_ (hb); have n6_ := am_ (hi); clear BK217; clear HO224; clear BK227; clear HO251; clear HK; clear HB; clear HI0; have BK217 := n0_; have HO224 := n1_; have BK227 := n2_; have HO251 := n3_; have HK := n4_; have HB := n5_; have HI0 := n6_; clear n0_ n1_ n2_ n3_ n4_ n5_ n6_; (try clear hb); have p52 : 0 ≤ (0 : Int) := (by omega); (have q52 : (0 : Int) < ((t222.length : Int) : Int) := oa_); have qi52 : (0 < t222.length) = True := eq_true (by omega); obtain ⟨go52, co52, eo52, gb52, gl52, cl52, HG52⟩ := Kd.N_form HO224.out (by omega); (first | cases eo52 | (injection eo52 with ea_ en_ ec_; (first | subst ea_ | (injection ea_ with ea_; subst ea_)); subst ec_; clear en_)); have GB52 := am_ gb52; have GG52 := am_ HG52; clear gb52 gl52 HG52; obtain ⟨ce52, hcl52, hM52, hcc52, hfr52⟩ := Kd.N_elem HO224.out z47 (0 : Int) p52 q52; obtain ⟨ua52_0, uc52_0, rfl, ul52_0, ge52_0⟩ := k47_openF hM52; have hx52_0 : World.cell? _ ⟨go52, (0 : Int).toNat * 2, none⟩ = some (.slice ua52_0 ((rd_T47 t222 0).f0).length uc52_0) := hcc52 0 _ rfl; have hx52_1 : World.cell? _ ⟨go52, (0 : Int).toNat * 2 + 1, none⟩ = some (.int .i64 ((rd_T47 t222 0).f1)) := hcc52 1 _ rfl; have hf52_0 : World.frozen? _ ⟨go52, (0 : Int).toNat * 2, none⟩ = false := hfr52 0; have hf52_1 : World.frozen? _ ⟨go52, (0 : Int).toNat * 2 + 1, none⟩ = false := hfr52 1; clear hcl52 hcc52 hfr52 hM52; (try rw [show ((0 : Int)).toNat = 0 from rfl] at hx52_0); (try simp only [Nat.reduceMul, Nat.zero_mul, Nat.zero_add, Nat.reduceAdd] at hx52_0); (try rw [show ((0 : Int)).toNat = 0 from rfl] at hf52_0); (try simp only [Nat.reduceMul, Nat.zero_mul, Nat.zero_add, Nat.reduceAdd] at hf52_0); (try rw [show ((0 : Int)).toNat = 0 from rfl] at hx52_1); (try simp only [Nat.reduceMul, Nat.zero_mul, Nat.zero_add, Nat.reduceAdd] at hx52_1); (try rw [show ((0 : Int)).toNat = 0 from rfl] at hf52_1); (try simp only [Nat.reduceMul, Nat.zero_mul, Nat.zero_add, Nat.reduceAdd] at hf52_1); replace p52 := eq_true p52; replace q52 := eq_true q52; (have HN0_go52 := am_ (show g ≠ go52 from by have h_ := IsS75.own_neN HI0.out HO224.out (by decide); intro e_; exact h_ (by rw [e_]; rfl))); have HX68 := am_ (show Kd.N k47 47 _ w.heap.size (fun k_ => (w.heap.size ≤ k_) ∧ some k_ ≠ (.slice Ao66 y249.length co66 : Value).ownBlock ∧ k_ ≠ gb217 ∧ k_ ≠ gb227 ∧ k_ ≠ g) (.slice (some ⟨go52, 0, none⟩) t222.length co60) t222 from (Kd.N_mono (HO224.out) (fun k_ hk => ⟨hk.1.1.1, ⟨hk.2, ⟨hk.1.1.2.1, ⟨hk.1.2, hk.1.1.2.2⟩⟩⟩⟩))); (obtain ⟨ce68, hcl68, hM68, hcc68, hfr68⟩ := Kd.N_elem HX68.out z47 (0 : Int) (by omega) (by have h_ : (0 : Int) < ((t222.length : Int) : Int) := oa_; first | exact h_ | (have e_ := (Kd.N_reads' HO224.out).1; omega) | simpa using h_)); obtain ⟨ua68_0, uc68_0, rfl, ul68_0, ge68_0⟩ := k47_openF hM68; (have HP68 := (Kd.N_seg HX68.out (0 : Int) (by omega) (by have h_ : (0 : Int) < ((t222.length : Int) : Int) := oa_; first | exact h_ | (have e_ := (Kd.N_reads' HO224.out).1; omega) | simpa using h_) (seg := [.int .i64 t252]) (j := 1) hcl68 hcc68 (show 2 ≤ 2 from by decide) (x' := (⟨(rd_T47 t222 0).f0, t252⟩ : S47)) (k47_mkF _ _ (⟨(rd_T47 t222 0).f0, t252⟩ : S47) ul68_0 ge68_0) (fun _ hk => hk)).1); rw [← Ny255.out] at HP68; have HQ68 := am_ HP68; clear hcl68 hcc68 hfr68 hM68 HP68; refine hK.out _ _ ⟨bc_ BK227 0, bc_ BK227 1⟩ (fun hHeld => ?_); clear hK K; refine nm_ ?_; refine plx_ 5 (tf 6 2) ?_
      refine pl_ ?_; refine last_ (i := 7) (N := none) (tf 8 0) rfl rfl (one_of HT_.out (by kernel_rfl)) (by decide) (fun K hK => ?_); refine skip_ (w1 := ?_) (by rfl) rfl ?_ ?_; rotate_left
      ·go_simp
       rfl
      refine hK.out _ _ ?_; clear hK K; refine done_ (done_of HT_.out (by kernel_rfl)) ?_; (have n0_ : Aside0 (Kd.N k47 47 (w67.setCell ⟨go52, 1, none⟩ (.int .i64 t252)) w.heap.size (fun k_ => (w.heap.size ≤ k_) ∧ some k_ ≠ (.slice Ao66 y249.length co66 : Value).ownBlock ∧ k_ ≠ gb217 ∧ k_ ≠ g ∧ k_ ≠ gb227) (.slice (some ⟨go52, 0, none⟩) t222.length co60) y255) := ⟨by (with_reducible repeat (first | apply Kd.N_alloc | apply Kd.N_drewN | apply Kd.N_drew)); exact Kd.N_mono HQ68.out (fun _ hk => ⟨hk.1, ⟨hk.2.1, ⟨hk.2.2.1, ⟨hk.2.2.2.2, hk.2.2.2.1⟩⟩⟩⟩)⟩); (have n1_ : Aside0 (Kd.R (Kd.int .i64) 3 (w67.setCell ⟨go52, 1, none⟩ (.int .i64 t252)) w.heap.size (fun k_ => (w.heap.size ≤ k_)) (.slice Ao66 y249.length co66) y249) := ⟨by (with_reducible repeat (first | apply Kd.R_alloc | apply Kd.R_drewN | apply Kd.R_drew)); exact Kd.R_mono (Kd.R_far (p := ⟨go52, 1, none⟩) (Kd.R_types HO251.out GG52.out (by decide)) (fun _ hk => hk.2) (.int .i64 t252)) (fun _ hk => hk.1.1)⟩); (have n2_ : Aside0 ((w67.setCell ⟨go52, 1, none⟩ (.int .i64 t252)).heap[gb217]? = some (.cells #[.int .i64 0, .slice none 0 0] 26 (0, 0))) := ⟨by (with_reducible repeat (first | refine blk_drewN ?_ _ | refine blk_drew ?_ | refine blk_alloc ?_ _)); refine blk_far ?_ (by have h_ := Kd.N_away HO224.out (fun _ hk => hk.1.1.2.1); intro e_; exact h_ (by rw [e_]; rfl)) _; (with_reducible repeat (first | refine blk_drewN ?_ _ | refine blk_drew ?_ | refine blk_alloc ?_ _)); exact BK217.out⟩); (have n3_ : Aside0 ((w67.setCell ⟨go52, 1, none⟩ (.int .i64 t252)).heap[gb227]? = some (.cells #[.int .i64 t221, .slice (some ⟨go52, 0, none⟩) t222.length co60] 26 (0, 0))) := ⟨by (with_reducible repeat (first | refine blk_drewN ?_ _ | refine blk_drew ?_ | refine blk_alloc ?_ _)); refine blk_far ?_ (by have h_ := Kd.N_away HO224.out (fun _ hk => hk.1.2); intro e_; exact h_ (by rw [e_]; rfl)) _; (with_reducible repeat (first | refine blk_drewN ?_ _ | refine blk_drew ?_ | refine blk_alloc ?_ _)); exact BK227.out⟩); (have n4_ : Aside0 (IsS75 w0 (w67.setCell ⟨go52, 1, none⟩ (.int .i64 t252)) g s0_0 t253 t254) := ⟨by repeat (first | (with_reducible first | exact HI0.out | apply IsS75.alloc | apply IsS75.drewN | apply IsS75.drew | apply IsS75.set_1 | apply IsS75.set_2 | refine IsS75.far ?_ HN0_go52.out _ | apply IsS75.far (hne := NB0_217.out) | apply IsS75.far (hne := NB0_227.out)) | exact HI0.out)⟩); (have n5_ : Aside0 (KeepBut w (w67.setCell ⟨go52, 1, none⟩ (.int .i64 t252)) g none) := ⟨by repeat (first | (with_reducible first | exact HK.out | apply KeepBut.set_ | apply keep_drewN | apply keep_drew | apply keep_alloc | refine keep_far ?_ GB52.out _ | refine keep_far ?_ GW217.out _ | refine keep_far ?_ GW227.out _) | exact HK.out)⟩); (have n6_ : Aside0 (Below w0.heap.size w0 (w67.setCell ⟨go52, 1, none⟩ (.int .i64 t252))) := ⟨by repeat (first | (with_reducible first | exact HB.out | apply below_alloc | apply pw_below_drewN | apply below_drew1 | refine below_set ?_ (Nat.le_trans HL.out GB52.out) | refine below_set ?_ (IsS75.ge HI0.out) | refine below_set ?_ GE217.out | refine below_set ?_ GE227.out) | exact HB.out)⟩); (try clear HO224); (try clear HO251); (try clear BK217); (try clear BK227); (try clear HI0); (try clear HK); (try clear HB); generalize (w67.setCell ⟨go52, 1, none⟩ (.int .i64 t252)) = w69 at n0_ n1_ n2_ n3_ n4_ n5_ n6_ ⊢; have HO224 := n0_; have HO251 := n1_; have BK217 := n2_; have BK227 := n3_; have HI0 := n4_; have HK := n5_; have HB := n6_; clear n0_ n1_ n2_ n3_ n4_ n5_ n6_; obtain ⟨hcz70_0, hcz70_1, hfz70_0, hfz70_1⟩ := b2_ BK227; have hnb71 := NB217_0.out; have hnc71 := NB0_217.out; obtain ⟨hcz72_0, hcz72_1, hfz72_0, hfz72_1⟩ := b2_ BK217
      try go_wp2
      refine bodyPost_ret (results_cell_row rfl _ _ gb217 26 #[.int .i64 t221, .slice (some ⟨go52, 0, none⟩) t222.length co60] (0, 0) _ rfl (bp2_ (bkx_ BK217.out)) Tryz.underlying26 rfl (by kernel_rfl)) rfl ?_; (exact ⟨_, rr_, by (with_reducible repeat (first | apply Kd.N_alloc | apply Kd.N_drewN | apply Kd.N_drew)); exact Kd.N_mono (Kd.N_far (p := ⟨gb217, 1, none⟩) (Kd.N_far (p := ⟨gb217, 0, none⟩) (Kd.N_mono HO224.out (fun k_ hk => (⟨hk, hk.2.2.1⟩ : _ ∧ k_ ≠ gb217))) (fun _ hk => hk.2) (.int .i64 t221)) (fun _ hk => hk.2) (.slice (some ⟨go52, 0, none⟩) t222.length co60)) (fun _ hk => hk.1.1), ab68_, ab69_, ab70_⟩)
     ·rw [if_neg c51] at H
      exact nn_ H
    ·rw [if_neg c49] at H
     have c49b0 := decide_eq_false c49; have c49b1 : decide (0 < t222.length) = false := decide_eq_false (by omega); clear c49; simp only [Option.some.injEq, Prod.mk.injEq] at H; obtain ⟨rfl, rfl, rfl, rfl⟩ := H
     go_enter Tryz.func15, Tryz.ntmps15
     go_wp2_with (first | ((with_reducible refine gate_dst (N := 2) rfl ?_); refine bx_ 2 #[.int .i64 0, .slice none 0 0] 26 ?_; intro gb217 hg w73 hbox hb; have n0_ := am_ (IsS75.below ab34_ hb); have n1_ := am_ (KeepBut.trans ab38_ (KeepBut.of_below hb g none) (.inl rfl)); have n2_ := am_ (below_step ab35_ hb); have n3_ := am_ (hbox); have n4_ := am_ ((by rw [hg]; exact (kz_ (g := g) ab38_) : w.heap.size ≤ gb217)); have n5_ := am_ ((Nat.le_trans HW0.out (by rw [hg]; exact (kz_ (g := g) ab38_) : w.heap.size ≤ gb217) : w0.heap.size ≤ gb217)); have n6_ := am_ ((by rw [hg]; exact Nat.ne_of_lt (IsS75.lt (show IsS75 w0 _ g s0_0 s0_1 s0_2 from ab34_)) : g ≠ gb217)); have n7_ := am_ ((by rw [hg]; exact Nat.ne_of_gt (IsS75.lt (show IsS75 w0 _ g s0_0 s0_1 s0_2 from ab34_)) : gb217 ≠ g)); clear HI0; clear HK; clear HB; have HI0 := n0_; have HK := n1_; have HB := n2_; have BK217 := n3_; have GW217 := n4_; have GE217 := n5_; have NB0_217 := n6_; have NB217_0 := n7_; clear n0_ n1_ n2_ n3_ n4_ n5_ n6_ n7_; clear hb hbox hg) | ((with_reducible refine gate_callee (f := 23) rfl ?_); refine gsL_ (some 6) Tryz.func23 #[.pointer (some ⟨g, 0, none⟩), .int .i64 4] ?_; (with_reducible refine (spec_l01Below.calls g s0_0 s0_1 s0_2 4 t218 t219 t220 w0 _ ?side1 ?side2 A2.out).mono ?_); (case side1 => exact ab65_); (case side2 => exact ab66_); rintro e w74 ⟨rfl, hi, hb, hk⟩; refine ⟨_, rfl, ?_⟩; replace BK217 := am_ (KeepBut.blk hk (g' := gb217) (o := .cells #[.int .i64 0, .slice none 0 0] 26 (0, 0)) (bkx_ BK217.out) NB217_0.out (by simp)); replace HK := am_ (KeepBut.trans ab67_ hk (.inl rfl)); replace HI0 := am_ (hi); replace HB := am_ (hb); (try clear hb)) | ((with_reducible refine gate_callee (f := 39) rfl ?_); refine gsL_ (some 7) Tryz.func39 #[.pointer (some ⟨g, 0, none⟩), .int .i64 t218, .bool true] ?_; (with_reducible refine (spec_l02Bag.calls k g s0_0 t219 t220 t218 true t221 t222 t225 t226 w0 _ ?side1 ?side2 A3.out).mono ?_); (case side1 => exact ab65_); (case side2 => exact ab66_); rintro e w75 ⟨v223, rfl, ho0, hi, hb, hk⟩; refine ⟨_, rfl, ?_⟩; have HO224 := am_ (Kd.N_lower (Kd.N_mono (ok' := fun k_ => (w.heap.size ≤ k_) ∧ k_ ≠ gb217 ∧ k_ ≠ g) ho0 (fun k_ hk_ => ⟨(Nat.le_trans (kz_ (g := g) ab67_) hk_), (Kd.freshB (g := gb217) (o := .cells #[.int .i64 0, .slice none 0 0] 26 (0, 0)) (bkx_ BK217.out) k_ hk_), (IsS75.fresh ab65_ k_ hk_)⟩)) (kz_ (g := g) ab67_)); replace BK217 := am_ (KeepBut.blk hk (g' := gb217) (o := .cells #[.int .i64 0, .slice none 0 0] 26 (0, 0)) (bkx_ BK217.out) NB217_0.out (by simp)); replace HK := am_ (KeepBut.trans ab67_ hk (.inl rfl)); replace HI0 := am_ (hi); replace HB := am_ (hb); (try clear hb); (try clear ho0)) | ((with_reducible refine gate_dst (N := 3) rfl ?_); refine bx_ 3 #[.int .i64 0, .slice none 0 0] 26 ?_; intro gb227 hg w76 hbox hb; have n0_ := am_ (Kd.N_below (Kd.N_elderB (n3_ HO224.out) gb227 (Nat.le_of_eq hg.symm)) hb); have n1_ := am_ (IsS75.below ab65_ hb); have n2_ := bkb_ BK217 hb; have n3_ := am_ (KeepBut.trans ab67_ (KeepBut.of_below hb g none) (.inl rfl)); have n4_ := am_ (below_step ab66_ hb); have n5_ := am_ (hbox); have n6_ := am_ ((by rw [hg]; exact (kz_ (g := g) ab67_) : w.heap.size ≤ gb227)); have n7_ := am_ ((Nat.le_trans HW0.out (by rw [hg]; exact (kz_ (g := g) ab67_) : w.heap.size ≤ gb227) : w0.heap.size ≤ gb227)); have n8_ := nl_ hg BK217; have n9_ := ng_ hg BK217; have n10_ := am_ ((by rw [hg]; exact Nat.ne_of_lt (IsS75.lt (show IsS75 w0 _ g s0_0 t225 t226 from ab65_)) : g ≠ gb227)); have n11_ := am_ ((by rw [hg]; exact Nat.ne_of_gt (IsS75.lt (show IsS75 w0 _ g s0_0 t225 t226 from ab65_)) : gb227 ≠ g)); clear HO224; clear HI0; clear BK217; clear HK; clear HB; have HO224 := n0_; have HI0 := n1_; have BK217 := n2_; have HK := n3_; have HB := n4_; have BK227 := n5_; have GW227 := n6_; have GE227 := n7_; have NB217_227 := n8_; have NB227_217 := n9_; have NB0_227 := n10_; have NB227_0 := n11_; clear n0_ n1_ n2_ n3_ n4_ n5_ n6_ n7_ n8_ n9_ n10_ n11_; clear hb hbox hg; have hnb77 := NB227_217.out; have hnc77 := NB217_227.out; have hnb78 := NB227_0.out; have hnc78 := NB0_227.out; obtain ⟨hcz79_0, hcz79_1, hfz79_0, hfz79_1⟩ := b2_ BK227; obtain ⟨Ao80, co80, eo80⟩ := Kd.N_slice HO224.out; subst eo80) | ((with_reducible refine gate_callee (f := 23) rfl ?_); refine gsL_ (some 9) Tryz.func23 #[.pointer (some ⟨g, 0, none⟩), .int .i64 16] ?_; (with_reducible refine (spec_l01Below.calls g s0_0 t225 t226 16 t228 t229 t230 w0 _ ?side1 ?side2 A4.out).mono ?_); (case side1 => exact ab68_); (case side2 => exact ab69_); rintro e w81 ⟨rfl, hi, hb, hk⟩; refine ⟨_, rfl, ?_⟩; replace BK217 := am_ (KeepBut.blk hk (g' := gb217) (o := .cells #[.int .i64 0, .slice none 0 0] 26 (0, 0)) (bf2_ NB217_227 (bkx_ BK217.out)) NB217_0.out (by simp)); replace HO224 := am_ (Kd.N_mono (Kd.N_keep (Kd.N_mono (ok := fun k_ => ((((w.heap.size ≤ k_)) ∧ (k_ ≠ gb217 ∧ k_ ≠ g)) ∧ k_ ≠ gb227)) (n3_ (Kd.N_mono (Kd.N_far (p := ⟨gb227, 1, none⟩) (Kd.N_far (p := ⟨gb227, 0, none⟩) (Kd.N_mono HO224.out (fun k_ hk => (⟨hk, hk.2⟩ : _ ∧ k_ ≠ gb227))) (fun _ hk => hk.2) (.int .i64 t221)) (fun _ hk => hk.2) (.slice Ao80 t222.length co80)) (fun _ h_ => h_.1))) (fun k_ hk_ => (⟨hk_, hk_.1.2.2⟩ : _ ∧ k_ ≠ g))) hk (fun _ h => h.2)) (fun _ h => h.1)); replace BK227 := am_ (KeepBut.blk hk (g' := gb227) (o := .cells #[.int .i64 t221, .slice Ao80 t222.length co80] 26 (0, 0)) (bp2_ (bkx_ BK227.out)) NB227_0.out (by simp)); replace HK := am_ (KeepBut.trans ab70_ hk (.inl rfl)); replace HI0 := am_ (hi); replace HB := am_ (hb); (try clear hb); obtain ⟨hcz82_0, hcz82_1, hfz82_0, hfz82_1⟩ := b2_ BK227; have hnb83 := NB217_0.out; have hnc83 := NB0_217.out; obtain ⟨hcz84_0, hcz84_1, hfz84_0, hfz84_1⟩ := b2_ BK217))
     refine bodyPost_ret (results_cell_row rfl _ _ gb217 26 #[.int .i64 t221, .slice Ao80 t222.length co80] (0, 0) _ rfl (bp2_ (bkx_ BK217.out)) Tryz.underlying26 rfl (by kernel_rfl)) rfl ?_; (exact ⟨_, rr_, by (with_reducible repeat (first | apply Kd.N_alloc | apply Kd.N_drewN | apply Kd.N_drew)); exact Kd.N_mono (Kd.N_far (p := ⟨gb217, 1, none⟩) (Kd.N_far (p := ⟨gb217, 0, none⟩) (Kd.N_mono HO224.out (fun k_ hk => (⟨hk, hk.1.2.1⟩ : _ ∧ k_ ≠ gb217))) (fun _ hk => hk.2) (.int .i64 t221)) (fun _ hk => hk.2) (.slice Ao80 t222.length co80)) (fun _ hk => hk.1.1.1), ab68_, ab69_, ab70_⟩)
   ·rw [if_neg c48] at H
    have c48b0 : (t228 == 2) = false := beq_eq_false_iff_ne.mpr c48; have c48b1 : (t228 != 2) = true := bne_iff_ne.mpr c48; simp only [Option.some.injEq, Prod.mk.injEq] at H; obtain ⟨rfl, rfl, rfl, rfl⟩ := H
    go_enter Tryz.func15, Tryz.ntmps15
    go_wp2_with (first | ((with_reducible refine gate_dst (N := 2) rfl ?_); refine bx_ 2 #[.int .i64 0, .slice none 0 0] 26 ?_; intro gb217 hg w85 hbox hb; have n0_ := am_ (IsS75.below ab34_ hb); have n1_ := am_ (KeepBut.trans ab38_ (KeepBut.of_below hb g none) (.inl rfl)); have n2_ := am_ (below_step ab35_ hb); have n3_ := am_ (hbox); have n4_ := am_ ((by rw [hg]; exact (kz_ (g := g) ab38_) : w.heap.size ≤ gb217)); have n5_ := am_ ((Nat.le_trans HW0.out (by rw [hg]; exact (kz_ (g := g) ab38_) : w.heap.size ≤ gb217) : w0.heap.size ≤ gb217)); have n6_ := am_ ((by rw [hg]; exact Nat.ne_of_lt (IsS75.lt (show IsS75 w0 _ g s0_0 s0_1 s0_2 from ab34_)) : g ≠ gb217)); have n7_ := am_ ((by rw [hg]; exact Nat.ne_of_gt (IsS75.lt (show IsS75 w0 _ g s0_0 s0_1 s0_2 from ab34_)) : gb217 ≠ g)); clear HI0; clear HK; clear HB; have HI0 := n0_; have HK := n1_; have HB := n2_; have BK217 := n3_; have GW217 := n4_; have GE217 := n5_; have NB0_217 := n6_; have NB217_0 := n7_; clear n0_ n1_ n2_ n3_ n4_ n5_ n6_ n7_; clear hb hbox hg) | ((with_reducible refine gate_callee (f := 23) rfl ?_); refine gsL_ (some 6) Tryz.func23 #[.pointer (some ⟨g, 0, none⟩), .int .i64 4] ?_; (with_reducible refine (spec_l01Below.calls g s0_0 s0_1 s0_2 4 t218 t219 t220 w0 _ ?side1 ?side2 A2.out).mono ?_); (case side1 => exact ab65_); (case side2 => exact ab66_); rintro e w86 ⟨rfl, hi, hb, hk⟩; refine ⟨_, rfl, ?_⟩; replace BK217 := am_ (KeepBut.blk hk (g' := gb217) (o := .cells #[.int .i64 0, .slice none 0 0] 26 (0, 0)) (bkx_ BK217.out) NB217_0.out (by simp)); replace HK := am_ (KeepBut.trans ab67_ hk (.inl rfl)); replace HI0 := am_ (hi); replace HB := am_ (hb); (try clear hb)) | ((with_reducible refine gate_callee (f := 39) rfl ?_); refine gsL_ (some 7) Tryz.func39 #[.pointer (some ⟨g, 0, none⟩), .int .i64 t218, .bool true] ?_; (with_reducible refine (spec_l02Bag.calls k g s0_0 t219 t220 t218 true t221 t222 t225 t226 w0 _ ?side1 ?side2 A3.out).mono ?_); (case side1 => exact ab65_); (case side2 => exact ab66_); rintro e w87 ⟨v223, rfl, ho0, hi, hb, hk⟩; refine ⟨_, rfl, ?_⟩; have HO224 := am_ (Kd.N_lower (Kd.N_mono (ok' := fun k_ => (w.heap.size ≤ k_) ∧ k_ ≠ gb217 ∧ k_ ≠ g) ho0 (fun k_ hk_ => ⟨(Nat.le_trans (kz_ (g := g) ab67_) hk_), (Kd.freshB (g := gb217) (o := .cells #[.int .i64 0, .slice none 0 0] 26 (0, 0)) (bkx_ BK217.out) k_ hk_), (IsS75.fresh ab65_ k_ hk_)⟩)) (kz_ (g := g) ab67_)); replace BK217 := am_ (KeepBut.blk hk (g' := gb217) (o := .cells #[.int .i64 0, .slice none 0 0] 26 (0, 0)) (bkx_ BK217.out) NB217_0.out (by simp)); replace HK := am_ (KeepBut.trans ab67_ hk (.inl rfl)); replace HI0 := am_ (hi); replace HB := am_ (hb); (try clear hb); (try clear ho0)) | ((with_reducible refine gate_dst (N := 3) rfl ?_); refine bx_ 3 #[.int .i64 0, .slice none 0 0] 26 ?_; intro gb227 hg w88 hbox hb; have n0_ := am_ (Kd.N_below (Kd.N_elderB (n3_ HO224.out) gb227 (Nat.le_of_eq hg.symm)) hb); have n1_ := am_ (IsS75.below ab65_ hb); have n2_ := bkb_ BK217 hb; have n3_ := am_ (KeepBut.trans ab67_ (KeepBut.of_below hb g none) (.inl rfl)); have n4_ := am_ (below_step ab66_ hb); have n5_ := am_ (hbox); have n6_ := am_ ((by rw [hg]; exact (kz_ (g := g) ab67_) : w.heap.size ≤ gb227)); have n7_ := am_ ((Nat.le_trans HW0.out (by rw [hg]; exact (kz_ (g := g) ab67_) : w.heap.size ≤ gb227) : w0.heap.size ≤ gb227)); have n8_ := nl_ hg BK217; have n9_ := ng_ hg BK217; have n10_ := am_ ((by rw [hg]; exact Nat.ne_of_lt (IsS75.lt (show IsS75 w0 _ g s0_0 t225 t226 from ab65_)) : g ≠ gb227)); have n11_ := am_ ((by rw [hg]; exact Nat.ne_of_gt (IsS75.lt (show IsS75 w0 _ g s0_0 t225 t226 from ab65_)) : gb227 ≠ g)); clear HO224; clear HI0; clear BK217; clear HK; clear HB; have HO224 := n0_; have HI0 := n1_; have BK217 := n2_; have HK := n3_; have HB := n4_; have BK227 := n5_; have GW227 := n6_; have GE227 := n7_; have NB217_227 := n8_; have NB227_217 := n9_; have NB0_227 := n10_; have NB227_0 := n11_; clear n0_ n1_ n2_ n3_ n4_ n5_ n6_ n7_ n8_ n9_ n10_ n11_; clear hb hbox hg; have hnb89 := NB227_217.out; have hnc89 := NB217_227.out; have hnb90 := NB227_0.out; have hnc90 := NB0_227.out; obtain ⟨hcz91_0, hcz91_1, hfz91_0, hfz91_1⟩ := b2_ BK227; obtain ⟨Ao92, co92, eo92⟩ := Kd.N_slice HO224.out; subst eo92) | ((with_reducible refine gate_callee (f := 23) rfl ?_); refine gsL_ (some 9) Tryz.func23 #[.pointer (some ⟨g, 0, none⟩), .int .i64 16] ?_; (with_reducible refine (spec_l01Below.calls g s0_0 t225 t226 16 t228 t229 t230 w0 _ ?side1 ?side2 A4.out).mono ?_); (case side1 => exact ab68_); (case side2 => exact ab69_); rintro e w93 ⟨rfl, hi, hb, hk⟩; refine ⟨_, rfl, ?_⟩; replace BK217 := am_ (KeepBut.blk hk (g' := gb217) (o := .cells #[.int .i64 0, .slice none 0 0] 26 (0, 0)) (bf2_ NB217_227 (bkx_ BK217.out)) NB217_0.out (by simp)); replace HO224 := am_ (Kd.N_mono (Kd.N_keep (Kd.N_mono (ok := fun k_ => ((((w.heap.size ≤ k_)) ∧ (k_ ≠ gb217 ∧ k_ ≠ g)) ∧ k_ ≠ gb227)) (n3_ (Kd.N_mono (Kd.N_far (p := ⟨gb227, 1, none⟩) (Kd.N_far (p := ⟨gb227, 0, none⟩) (Kd.N_mono HO224.out (fun k_ hk => (⟨hk, hk.2⟩ : _ ∧ k_ ≠ gb227))) (fun _ hk => hk.2) (.int .i64 t221)) (fun _ hk => hk.2) (.slice Ao92 t222.length co92)) (fun _ h_ => h_.1))) (fun k_ hk_ => (⟨hk_, hk_.1.2.2⟩ : _ ∧ k_ ≠ g))) hk (fun _ h => h.2)) (fun _ h => h.1)); replace BK227 := am_ (KeepBut.blk hk (g' := gb227) (o := .cells #[.int .i64 t221, .slice Ao92 t222.length co92] 26 (0, 0)) (bp2_ (bkx_ BK227.out)) NB227_0.out (by simp)); replace HK := am_ (KeepBut.trans ab70_ hk (.inl rfl)); replace HI0 := am_ (hi); replace HB := am_ (hb); (try clear hb); obtain ⟨hcz94_0, hcz94_1, hfz94_0, hfz94_1⟩ := b2_ BK227; have hnb95 := NB217_0.out; have hnc95 := NB0_217.out; obtain ⟨hcz96_0, hcz96_1, hfz96_0, hfz96_1⟩ := b2_ BK217))
    refine bodyPost_ret (results_cell_row rfl _ _ gb217 26 #[.int .i64 t221, .slice Ao92 t222.length co92] (0, 0) _ rfl (bp2_ (bkx_ BK217.out)) Tryz.underlying26 rfl (by kernel_rfl)) rfl ?_; (exact ⟨_, rr_, by (with_reducible repeat (first | apply Kd.N_alloc | apply Kd.N_drewN | apply Kd.N_drew)); exact Kd.N_mono (Kd.N_far (p := ⟨gb217, 1, none⟩) (Kd.N_far (p := ⟨gb217, 0, none⟩) (Kd.N_mono HO224.out (fun k_ hk => (⟨hk, hk.1.2.1⟩ : _ ∧ k_ ≠ gb217))) (fun _ hk => hk.2) (.int .i64 t221)) (fun _ hk => hk.2) (.slice Ao92 t222.length co92)) (fun _ hk => hk.1.1.1), ab68_, ab69_, ab70_⟩)

/-! ### spec_l01New: function 16 -/
def spec_l01New.l0 : Nat → List Int → Int → Int → Option (List Int × Int × Int)
 | 0, _, _, _ => none
 | k + 1, x0, x3, x4 => if x4 < (x0.length : Int) then (if x4 < 4000 then (if 0 ≤ x4 then (spec_l01New.l0 k x0 (Go.bits .and .i64 (wrap64 ((wrap64 ((wrap64 (x3 * 131)) + (wrap64 (rd x0 x4)))) + 7)) 1073741823) (wrap64 (x4 + 1))) else (none)) else (some (x0, 0, x3))) else (some (x0, 0, x3))
def spec_l01New.f (k : Nat) (l0 : List Int) : Option (List Int × Int × Int) := spec_l01New.l0 k l0 (wrap64 (312312 + (l0.length : Int))) 0
theorem ab71_ {B : Nat} {w W : World} (h : Below B w W := by repeat (first | (with_reducible first | exact HBW.out | apply below_alloc | apply pw_below_drewN | apply below_drew1) | exact HBW.out)) : Below B w W := h
set_option maxHeartbeats 8000000 in
set_option maxRecDepth 100000 in
theorem spec_l01New.calls (k : Nat) (A0 : Option Addr) (c0 : Nat) (l0 : List Int) (r1 : List Int) (r2 : Int) (r3 : Int) (w0 w : World) (hB : Below w0.heap.size w0 w) (hr0 : Kd.C (Kd.int .u8) w0 A0 l0.length l0) (hc0 : l0.length ≤ c0) (h : spec_l01New.f k l0 = some (r1, r2, r3)) :
  Calls Tryz.prog 16 #[.slice A0 l0.length c0] w fun e w' => ∃ g_ : Nat, e = .returned (.pointer (some ⟨g_, 0, none⟩)) ∧ IsS75 w0 w' g_ r1 r2 r3 ∧ Below w0.heap.size w0 w' ∧ Below w.heap.size w w' := by
 have hu75 := Tryz.underlying75
 have HR0 := am_ hr0
 have HC0 := am_ hc0
 clear hr0 hc0
 have HBW := am_ (Below.refl w.heap.size w)
 have HW0 := am_ hB.size
 have HB := am_ hB
 clear hB
 have H : (spec_l01New.l0 k l0 (wrap64 (312312 + (l0.length : Int))) 0) = some (r1, r2, r3) := h
 clear h
 have H' := am_ H
 clear H
 go_enter Tryz.func16, Tryz.ntmps16
 go_wp2
 go_loopg [3, 4] k (fun kq v3 v4 w' => ∃ (x3_1 : Int) (x4_1 : Int), v3 = .int .i64 x3_1 ∧ v4 = .int .i64 x4_1 ∧ Aside0 (spec_l01New.l0 kq l0 x3_1 x4_1 = some (r1, r2, r3)) ∧ Aside0 (kq ≤ k) ∧ Aside0 (Below w0.heap.size w0 w') ∧ Aside0 (Below w.heap.size w w'))
 case atStart => exact ⟨(wrap64 (312312 + (l0.length : Int))), (0), rs_, rs_, H', ⟨Nat.le_refl _⟩, ⟨bb_⟩, ⟨ab71_⟩⟩
 case round =>
  clear H'; (try clear c1); obtain ⟨x3_1, x4_1, rfl, rfl, HA, HK1, HB, HBW⟩ := hrel
  cases gk with
  | zero => exact absurd HA.out (by simp [spec_l01New.l0])
  | succ k1 =>
   have H := HA.out; clear HA; simp only [spec_l01New.l0] at H
   by_cases c2 : x4_1 < (l0.length : Int)
   ·rw [if_pos c2] at H
    have c2b0 := decide_eq_true c2; clear c2
    by_cases c3 : x4_1 < 4000
    ·rw [if_pos c3] at H
     have c3b0 := decide_eq_true c3; clear c3
     by_cases c4 : 0 ≤ x4_1
     ·rw [if_pos c4] at H
      have c4b0 := decide_eq_true c4; clear c4; have H' := am_ H; clear H; (have p256 : 0 ≤ (x4_1 : Int) := oa_); (have q256 : x4_1 < (l0.length : Int) := oa_); obtain ⟨ad256, e256, hx256_0⟩ := Kd.at_int HR0.out x4_1 p256 q256; cases e256; replace hx256_0 := pw_cell_below HB.out hx256_0; replace p256 := eq_true p256; replace q256 := eq_true q256
      go_wp2
      go_roundg k1
      case measure => have := HK1.out; omega
      case rel => exact ⟨(Go.bits .and .i64 (wrap64 ((wrap64 ((wrap64 (x3_1 * 131)) + (wrap64 (rd l0 x4_1)))) + 7)) 1073741823), (wrap64 (x4_1 + 1)), rs_, rs_, H', ⟨by have := HK1.out; omega⟩, ⟨bb_⟩, ⟨ab71_⟩⟩
     ·rw [if_neg c4] at H
      exact nn_ H
    ·rw [if_neg c3] at H
     have c3b0 := decide_eq_false c3; clear c3; simp only [Option.some.injEq, Prod.mk.injEq] at H; obtain ⟨rfl, rfl, rfl⟩ := H
     go_wp2_with (first | ((with_reducible refine gate_dst (N := 31) rfl ?_); refine bx_ 31 #[.slice A0 l0.length c0, .int .i64 0, .int .i64 x3_1] 75 ?_; intro gb257 hg w5 hbox hb; have BK257 := am_ (hbox); have GW257 := am_ ((by rw [hg]; exact (below_size ab71_) : w.heap.size ≤ gb257)); have GE257 := am_ ((Nat.le_trans HW0.out (by rw [hg]; exact (below_size ab71_) : w.heap.size ≤ gb257) : w0.heap.size ≤ gb257)); replace HBW := am_ (below_step HBW.out hb); replace HB := bs_ hb; clear hb hbox hg))
     go_ret
     (exact ⟨_, rfl, (show IsS75 w0 _ gb257 l0 0 x3_1 from ⟨_, _, by (with_reducible repeat (first | refine blk_drewN ?_ _ | refine blk_drew ?_ | refine blk_alloc ?_ _)); exact BK257.out, GE257.out, HR0.out⟩), by repeat (first | (with_reducible first | exact HB.out | apply below_alloc | apply pw_below_drewN | apply below_drew1 | refine below_set ?_ GE257.out) | exact HB.out), by repeat (first | (with_reducible first | exact HBW.out | apply below_alloc | apply pw_below_drewN | apply below_drew1 | refine below_set ?_ GW257.out) | exact HBW.out)⟩)
   ·rw [if_neg c2] at H
    have c2b0 := decide_eq_false c2; clear c2; simp only [Option.some.injEq, Prod.mk.injEq] at H; obtain ⟨rfl, rfl, rfl⟩ := H
    go_wp2_with (first | ((with_reducible refine gate_dst (N := 31) rfl ?_); refine bx_ 31 #[.slice A0 l0.length c0, .int .i64 0, .int .i64 x3_1] 75 ?_; intro gb258 hg w6 hbox hb; have BK258 := am_ (hbox); have GW258 := am_ ((by rw [hg]; exact (below_size ab71_) : w.heap.size ≤ gb258)); have GE258 := am_ ((Nat.le_trans HW0.out (by rw [hg]; exact (below_size ab71_) : w.heap.size ≤ gb258) : w0.heap.size ≤ gb258)); replace HBW := am_ (below_step HBW.out hb); replace HB := bs_ hb; clear hb hbox hg))
    go_ret
    (exact ⟨_, rfl, (show IsS75 w0 _ gb258 l0 0 x3_1 from ⟨_, _, by (with_reducible repeat (first | refine blk_drewN ?_ _ | refine blk_drew ?_ | refine blk_alloc ?_ _)); exact BK258.out, GE258.out, HR0.out⟩), by repeat (first | (with_reducible first | exact HB.out | apply below_alloc | apply pw_below_drewN | apply below_drew1 | refine below_set ?_ GE258.out) | exact HB.out), by repeat (first | (with_reducible first | exact HBW.out | apply below_alloc | apply pw_below_drewN | apply below_drew1 | refine below_set ?_ GW258.out) | exact HBW.out)⟩)

/-! ### spec_DrawPutBag: function 5 -/
def spec_DrawPutBag.f (k : Nat) (l0 : List Int) : Option (Int × (List (S47))) := (spec_l01New.f k l0).bind fun bt260 => ((spec_l02Any.f k bt260.1 bt260.2.1 bt260.2.2).bind fun bt264 => (some (bt264.1, bt264.2.1)))
theorem ab72_ {w0 W : World} {g : Nat} {f0 : List Int} {f1 : Int} {f2 : Int} (h : IsS75 w0 W g f0 f1 f2 := by repeat (first | (with_reducible first | exact HI263.out | apply IsS75.alloc | apply IsS75.drewN | apply IsS75.drew | apply IsS75.set_1 | apply IsS75.set_2 | apply IsS75.far (hne := NB263_259.out)) | exact HI263.out)) : IsS75 w0 W g f0 f1 f2 := h
theorem ab73_ {B : Nat} {w W : World} (h : Below B w W := by repeat (first | (with_reducible first | exact HB.out | apply below_alloc | apply pw_below_drewN | apply below_drew1 | refine below_set ?_ (IsS75.ge HI263.out) | refine below_set ?_ GE259.out) | exact HB.out)) : Below B w W := h
set_option maxHeartbeats 8000000 in
set_option maxRecDepth 100000 in
theorem spec_DrawPutBag.calls (k : Nat) (A0 : Option Addr) (c0 : Nat) (l0 : List Int) (r1 : Int) (r2 : List (S47)) (w : World) (hr0 : Kd.C (Kd.int .u8) w A0 l0.length l0) (hc0 : l0.length ≤ c0) (h : spec_DrawPutBag.f k l0 = some (r1, r2)) :
  Calls Tryz.prog 5 #[.slice A0 l0.length c0] w fun e w' => ∃ v1_ : Value, e = .returned (.agg #[.int .i64 r1, v1_]) ∧ Kd.N k47 47 w' w.heap.size (fun k_ => (w.heap.size ≤ k_)) v1_ r2 ∧ Below w.heap.size w w' := by
 have hu26 := Tryz.underlying26
 have HR0 := am_ hr0
 have HC0 := am_ hc0
 clear hr0 hc0
 have HB := am_ (Below.refl w.heap.size w)
 have H : ((spec_l01New.f k l0).bind fun bt260 => ((spec_l02Any.f k bt260.1 bt260.2.1 bt260.2.2).bind fun bt264 => (some (bt264.1, bt264.2.1)))) = some (r1, r2) := h
 clear h
 replace H := bsi_ H
 obtain ⟨⟨t260, t261, t262⟩, A20, H⟩ := H
 try dsimp only at H
 have A2 := am_ A20
 clear A20
 replace H := bsi_ H
 obtain ⟨⟨t264, t265, t268, t269⟩, A30, H⟩ := H
 try dsimp only at H
 have A3 := am_ A30
 clear A30
 simp only [Option.some.injEq, Prod.mk.injEq] at H
 obtain ⟨rfl, rfl⟩ := H
 go_enter Tryz.func5, Tryz.ntmps5
 go_wp2_with (first | ((with_reducible refine gate_dst (N := 2) rfl ?_); refine bx_ 2 #[.int .i64 0, .slice none 0 0] 26 ?_; intro gb259 hg w4 hbox hb; have BK259 := am_ (hbox); have GW259 := gw_ hg; have GE259 := gw_ hg; replace HB := bs_ hb; clear hb hbox hg) | ((with_reducible refine gate_callee (f := 16) rfl ?_); refine gsL_ (some 4) Tryz.func16 #[.slice A0 l0.length c0] ?_; (with_reducible refine (spec_l01New.calls k _ _ l0 t260 t261 t262 w _ ?side1 ?side2 ?side3 A2.out).mono ?_); (case side1 => repeat (first | (with_reducible first | exact HB.out | apply below_alloc | apply pw_below_drewN | apply below_drew1 | refine below_set ?_ GE259.out) | exact HB.out)); (case side2 => exact HR0.out); (case side3 => exact HC0.out); rintro e w5 ⟨g263, rfl, hi, hb, hb2⟩; refine ⟨_, rfl, ?_⟩; have HI263 := am_ (hi); have NB263_259 := am_ (IsS75.ne_blk hi (blk_below (g := gb259) (o := .cells #[.int .i64 0, .slice none 0 0] 26 (0, 0)) (bkx_ BK259.out) hb2) (by decide)); have NB259_263 := am_ (Ne.symm (IsS75.ne_blk hi (blk_below (g := gb259) (o := .cells #[.int .i64 0, .slice none 0 0] 26 (0, 0)) (bkx_ BK259.out) hb2) (by decide))); replace BK259 := am_ (blk_below (g := gb259) (o := .cells #[.int .i64 0, .slice none 0 0] 26 (0, 0)) (bkx_ BK259.out) hb2); replace HB := am_ (hb); (try clear hb)) | ((with_reducible refine gate_callee (f := 15) rfl ?_); refine gsL_ (some 5) Tryz.func15 #[.pointer (some ⟨g263, 0, none⟩)] ?_; (with_reducible refine (spec_l02Any.calls k g263 t260 t261 t262 t264 t265 t268 t269 w _ ?side1 ?side2 A3.out).mono ?_); (case side1 => exact ab72_); (case side2 => exact ab73_); rintro e w6 ⟨v266, rfl, ho0, hi, hb, hk⟩; refine ⟨_, rfl, ?_⟩; have HO267 := am_ (Kd.N_lower (Kd.N_mono (ok' := fun k_ => (w.heap.size ≤ k_) ∧ k_ ≠ gb259 ∧ k_ ≠ g263) ho0 (fun k_ hk_ => ⟨(Nat.le_trans (below_size ab73_) hk_), (Kd.freshB (g := gb259) (o := .cells #[.int .i64 0, .slice none 0 0] 26 (0, 0)) (bkx_ BK259.out) k_ hk_), (IsS75.fresh ab72_ k_ hk_)⟩)) (below_size ab73_)); replace BK259 := am_ (KeepBut.blk hk (g' := gb259) (o := .cells #[.int .i64 0, .slice none 0 0] 26 (0, 0)) (bkx_ BK259.out) NB259_263.out (by simp)); replace HI263 := am_ (hi); replace HB := am_ (hb); (try clear hb); (try clear ho0); have hnb7 := NB259_263.out; have hnc7 := NB263_259.out; obtain ⟨hcz8_0, hcz8_1, hfz8_0, hfz8_1⟩ := b2_ BK259; obtain ⟨Ao9, co9, eo9⟩ := Kd.N_slice HO267.out; subst eo9))
 refine bodyPost_ret (results_cell_row rfl _ _ gb259 26 #[.int .i64 t264, .slice Ao9 t265.length co9] (0, 0) _ rfl (bp2_ (bkx_ BK259.out)) Tryz.underlying26 rfl (by kernel_rfl)) rfl ?_
 exact ⟨_, rr_, by (with_reducible repeat (first | apply Kd.N_alloc | apply Kd.N_drewN | apply Kd.N_drew)); exact Kd.N_mono (Kd.N_far (p := ⟨gb259, 1, none⟩) (Kd.N_far (p := ⟨gb259, 0, none⟩) (Kd.N_mono HO267.out (fun k_ hk => (⟨hk, hk.2.1⟩ : _ ∧ k_ ≠ gb259))) (fun _ hk => hk.2) (.int .i64 t264)) (fun _ hk => hk.2) (.slice Ao9 t265.length co9)) (fun _ hk => hk.1.1), ab73_⟩

/-! ### impl_within: function 42 -/
def impl_within.f (a0 : Int) (a1 : Int) (a2 : Int) : Option (Bool) := if a1 ≤ a0 then (some (decide (a0 ≤ a2))) else (some false)
set_option maxHeartbeats 8000000 in
set_option maxRecDepth 100000 in
theorem impl_within.calls (a0 : Int) (a1 : Int) (a2 : Int) (r : Bool) (w : World) (h : impl_within.f a0 a1 a2 = some r) :
  Calls Tryz.prog 42 #[.int .i64 a0, .int .i64 a1, .int .i64 a2] w fun e w' => e = .returned (.bool r) ∧ Drawn0 w w' := by
 have H : (if a1 ≤ a0 then (some (decide (a0 ≤ a2))) else (some false)) = some r := h
 clear h
 by_cases c4 : a1 ≤ a0
 ·rw [if_pos c4] at H
  have c4b0 := decide_eq_true c4; clear c4; obtain rfl := Option.some.inj H
  go_enter Tryz.func42, Tryz.ntmps42
  go_wp2
  go_ret
  (exact ⟨by first | rfl | (simp; done) | (simp [*]; done), by repeat (first | exact Drawn0.refl _ | apply Drawn0.step)⟩)
 ·rw [if_neg c4] at H
  have c4b0 := decide_eq_false c4; clear c4; obtain rfl := Option.some.inj H
  go_enter Tryz.func42, Tryz.ntmps42
  go_wp2
  go_ret
  (exact ⟨by first | rfl | (simp; done) | (simp [*]; done), by repeat (first | exact Drawn0.refl _ | apply Drawn0.step)⟩)
/-! ### impl_ValueOk: function 46 -/
def impl_ValueOk.f (a0_0 : Int) (a0_1 : Int) (a0_2 : ByteArray) : Option (Bool) := if a0_0 = 0 then (if a0_1 = 0 then (some (a0_2.toList == ([] : List UInt8))) else (some false)) else (if a0_0 = 1 then (some (a0_2.toList == ([] : List UInt8))) else (if a0_0 = 2 then ((impl_within.f a0_1 0 1).bind fun t271 => (if t271 = true then (some (a0_2.toList == ([] : List UInt8))) else (some false))) else (if a0_0 = 3 then (if a0_1 = 0 then (some (decide ((a0_2.size : Int) ≤ 100))) else (some false)) else (some false))))
set_option maxHeartbeats 8000000 in
set_option maxRecDepth 100000 in
theorem impl_ValueOk.calls (a0_0 : Int) (a0_1 : Int) (a0_2 : ByteArray) (r : Bool) (w : World) (h : impl_ValueOk.f a0_0 a0_1 a0_2 = some r) :
  Calls Tryz.prog 46 #[.agg #[.int .i64 a0_0, .int .i64 a0_1, .string a0_2]] w fun e w' => e = .returned (.bool r) ∧ Below w.heap.size w w' := by
 have hu50 := Tryz.underlying50
 have HB := am_ (Below.refl w.heap.size w)
 have H : (if a0_0 = 0 then (if a0_1 = 0 then (some (a0_2.toList == ([] : List UInt8))) else (some false)) else (if a0_0 = 1 then (some (a0_2.toList == ([] : List UInt8))) else (if a0_0 = 2 then ((impl_within.f a0_1 0 1).bind fun t271 => (if t271 = true then (some (a0_2.toList == ([] : List UInt8))) else (some false))) else (if a0_0 = 3 then (if a0_1 = 0 then (some (decide ((a0_2.size : Int) ≤ 100))) else (some false)) else (some false))))) = some r := h
 clear h
 by_cases c2 : a0_0 = 0
 ·rw [if_pos c2] at H
  have c2b0 : (a0_0 == 0) = true := beq_iff_eq.mpr c2; have c2b1 : (a0_0 != 0) = false := bne_eq_false_iff_eq.mpr c2; clear c2
  by_cases c3 : a0_1 = 0
  ·rw [if_pos c3] at H
   have c3b0 : (a0_1 == 0) = true := beq_iff_eq.mpr c3; have c3b1 : (a0_1 != 0) = false := bne_eq_false_iff_eq.mpr c3; clear c3; obtain rfl := Option.some.inj H
   go_enter Tryz.func46, Tryz.ntmps46
   go_wp2_with (first | ((with_reducible refine gate_dst (N := 1) rfl ?_); (try (refine gate_guard (by rfl) ?_; dsimp only)); refine bx_ 1 #[.int .i64 a0_0, .int .i64 a0_1, .string a0_2] 50 ?_; intro gb270 hg w4 hbox hb; have BK270 := am_ (hbox); have GW270 := gw_ hg; have GE270 := gw_ hg; replace HB := bs_ hb; clear hb hbox hg; obtain ⟨hcz5_0, hcz5_1, hcz5_2, hfz5_0, hfz5_1, hfz5_2⟩ := b3_ BK270))
   go_ret
   exact ⟨er_, bb_⟩
  ·rw [if_neg c3] at H
   have c3b0 : (a0_1 == 0) = false := beq_eq_false_iff_ne.mpr c3; have c3b1 : (a0_1 != 0) = true := bne_iff_ne.mpr c3; obtain rfl := Option.some.inj H
   go_enter Tryz.func46, Tryz.ntmps46
   go_wp2_with (first | ((with_reducible refine gate_dst (N := 1) rfl ?_); (try (refine gate_guard (by rfl) ?_; dsimp only)); refine bx_ 1 #[.int .i64 a0_0, .int .i64 a0_1, .string a0_2] 50 ?_; intro gb270 hg w6 hbox hb; have BK270 := am_ (hbox); have GW270 := gw_ hg; have GE270 := gw_ hg; replace HB := bs_ hb; clear hb hbox hg; obtain ⟨hcz7_0, hcz7_1, hcz7_2, hfz7_0, hfz7_1, hfz7_2⟩ := b3_ BK270))
   go_ret
   exact ⟨er_, bb_⟩
 ·rw [if_neg c2] at H
  have c2b0 : (a0_0 == 0) = false := beq_eq_false_iff_ne.mpr c2; have c2b1 : (a0_0 != 0) = true := bne_iff_ne.mpr c2
  by_cases c8 : a0_0 = 1
  ·rw [if_pos c8] at H
   have c8b0 : (a0_0 == 1) = true := beq_iff_eq.mpr c8; have c8b1 : (a0_0 != 1) = false := bne_eq_false_iff_eq.mpr c8; clear c8; obtain rfl := Option.some.inj H
   go_enter Tryz.func46, Tryz.ntmps46
   go_wp2_with (first | ((with_reducible refine gate_dst (N := 1) rfl ?_); (try (refine gate_guard (by rfl) ?_; dsimp only)); refine bx_ 1 #[.int .i64 a0_0, .int .i64 a0_1, .string a0_2] 50 ?_; intro gb270 hg w9 hbox hb; have BK270 := am_ (hbox); have GW270 := gw_ hg; have GE270 := gw_ hg; replace HB := bs_ hb; clear hb hbox hg; obtain ⟨hcz10_0, hcz10_1, hcz10_2, hfz10_0, hfz10_1, hfz10_2⟩ := b3_ BK270))
   go_ret
   exact ⟨er_, bb_⟩
  ·rw [if_neg c8] at H
   have c8b0 : (a0_0 == 1) = false := beq_eq_false_iff_ne.mpr c8; have c8b1 : (a0_0 != 1) = true := bne_iff_ne.mpr c8
   by_cases c11 : a0_0 = 2
   ·rw [if_pos c11] at H
    have c11b0 : (a0_0 == 2) = true := beq_iff_eq.mpr c11; have c11b1 : (a0_0 != 2) = false := bne_eq_false_iff_eq.mpr c11; clear c11; replace H := bsi_ H; obtain ⟨t271, A120, H⟩ := H
    try dsimp only at H
    have A12 := am_ A120; clear A120
    by_cases c13 : t271 = true
    ·subst c13
     rw [if_pos rfl] at H; obtain rfl := Option.some.inj H
     go_enter Tryz.func46, Tryz.ntmps46
     go_wp2_with (first | ((with_reducible refine gate_dst (N := 1) rfl ?_); (try (refine gate_guard (by rfl) ?_; dsimp only)); refine bx_ 1 #[.int .i64 a0_0, .int .i64 a0_1, .string a0_2] 50 ?_; intro gb270 hg w14 hbox hb; have BK270 := am_ (hbox); have GW270 := gw_ hg; have GE270 := gw_ hg; replace HB := bs_ hb; clear hb hbox hg; obtain ⟨hcz15_0, hcz15_1, hcz15_2, hfz15_0, hfz15_1, hfz15_2⟩ := b3_ BK270) | ((with_reducible refine gate_callee (f := 42) rfl ?_); refine gsL_ (some 24) Tryz.func42 #[.int .i64 a0_1, .int .i64 0, .int .i64 1] ?_; (with_reducible refine (impl_within.calls a0_1 0 1 true _ A12.out).mono ?_); rintro e w' ⟨rfl, ⟨nd, rfl⟩⟩; refine ⟨_, rfl, ?_⟩))
     go_ret
     exact ⟨er_, bb_⟩
    ·replace c13 := Bool.eq_false_iff.mpr c13
     subst c13; (rw [if_neg (show ¬ (false = true) by decide)] at H); obtain rfl := Option.some.inj H
     go_enter Tryz.func46, Tryz.ntmps46
     go_wp2_with (first | ((with_reducible refine gate_dst (N := 1) rfl ?_); (try (refine gate_guard (by rfl) ?_; dsimp only)); refine bx_ 1 #[.int .i64 a0_0, .int .i64 a0_1, .string a0_2] 50 ?_; intro gb270 hg w16 hbox hb; have BK270 := am_ (hbox); have GW270 := gw_ hg; have GE270 := gw_ hg; replace HB := bs_ hb; clear hb hbox hg; obtain ⟨hcz17_0, hcz17_1, hcz17_2, hfz17_0, hfz17_1, hfz17_2⟩ := b3_ BK270) | ((with_reducible refine gate_callee (f := 42) rfl ?_); refine gsL_ (some 24) Tryz.func42 #[.int .i64 a0_1, .int .i64 0, .int .i64 1] ?_; (with_reducible refine (impl_within.calls a0_1 0 1 false _ A12.out).mono ?_); rintro e w' ⟨rfl, ⟨nd, rfl⟩⟩; refine ⟨_, rfl, ?_⟩))
     go_ret
     exact ⟨er_, bb_⟩
   ·rw [if_neg c11] at H
    have c11b0 : (a0_0 == 2) = false := beq_eq_false_iff_ne.mpr c11; have c11b1 : (a0_0 != 2) = true := bne_iff_ne.mpr c11
    by_cases c18 : a0_0 = 3
    ·rw [if_pos c18] at H
     have c18b0 : (a0_0 == 3) = true := beq_iff_eq.mpr c18; have c18b1 : (a0_0 != 3) = false := bne_eq_false_iff_eq.mpr c18; clear c18
     by_cases c19 : a0_1 = 0
     ·rw [if_pos c19] at H
      have c19b0 : (a0_1 == 0) = true := beq_iff_eq.mpr c19; have c19b1 : (a0_1 != 0) = false := bne_eq_false_iff_eq.mpr c19; clear c19; obtain rfl := Option.some.inj H
      go_enter Tryz.func46, Tryz.ntmps46
      go_wp2_with (first | ((with_reducible refine gate_dst (N := 1) rfl ?_); (try (refine gate_guard (by rfl) ?_; dsimp only)); refine bx_ 1 #[.int .i64 a0_0, .int .i64 a0_1, .string a0_2] 50 ?_; intro gb270 hg w20 hbox hb; have BK270 := am_ (hbox); have GW270 := gw_ hg; have GE270 := gw_ hg; replace HB := bs_ hb; clear hb hbox hg; obtain ⟨hcz21_0, hcz21_1, hcz21_2, hfz21_0, hfz21_1, hfz21_2⟩ := b3_ BK270))
      go_ret
      exact ⟨er_, bb_⟩
     ·rw [if_neg c19] at H
      have c19b0 : (a0_1 == 0) = false := beq_eq_false_iff_ne.mpr c19; have c19b1 : (a0_1 != 0) = true := bne_iff_ne.mpr c19; obtain rfl := Option.some.inj H
      go_enter Tryz.func46, Tryz.ntmps46
      go_wp2_with (first | ((with_reducible refine gate_dst (N := 1) rfl ?_); (try (refine gate_guard (by rfl) ?_; dsimp only)); refine bx_ 1 #[.int .i64 a0_0, .int .i64 a0_1, .string a0_2] 50 ?_; intro gb270 hg w22 hbox hb; have BK270 := am_ (hbox); have GW270 := gw_ hg; have GE270 := gw_ hg; replace HB := bs_ hb; clear hb hbox hg; obtain ⟨hcz23_0, hcz23_1, hcz23_2, hfz23_0, hfz23_1, hfz23_2⟩ := b3_ BK270))
      go_ret
      exact ⟨er_, bb_⟩
    ·rw [if_neg c18] at H
     have c18b0 : (a0_0 == 3) = false := beq_eq_false_iff_ne.mpr c18; have c18b1 : (a0_0 != 3) = true := bne_iff_ne.mpr c18; obtain rfl := Option.some.inj H
     go_enter Tryz.func46, Tryz.ntmps46
     go_wp2_with (first | ((with_reducible refine gate_dst (N := 1) rfl ?_); (try (refine gate_guard (by rfl) ?_; dsimp only)); refine bx_ 1 #[.int .i64 a0_0, .int .i64 a0_1, .string a0_2] 50 ?_; intro gb270 hg w24 hbox hb; have BK270 := am_ (hbox); have GW270 := gw_ hg; have GE270 := gw_ hg; replace HB := bs_ hb; clear hb hbox hg; obtain ⟨hcz25_0, hcz25_1, hcz25_2, hfz25_0, hfz25_1, hfz25_2⟩ := b3_ BK270))
     go_ret
     exact ⟨er_, bb_⟩

/-! ### slices.IndexFunc[[]loop.example/g00312/impl.Value,loop.example/g00312/impl.Value]: function 80 -/
set_option maxHeartbeats 4000000 in
set_option maxRecDepth 100000 in
theorem IndexFunc_T50.calls (f : S50 → Option Bool) (g : Nat) (lb : Array Value) (eg : ∀ args w, (callFunc g args).run Tryz.prog w = .ok (.enter g args) w) (A : Option Addr) (c : Nat) (xs : List S50) (r : Int) (w : World) (hr : Kd.C k50 w A xs.length xs) (hp : CB Tryz.prog k50 (fun cs => Value.agg cs.toArray) g lb f xs w) (h : idxO f xs 0 = some r) :
  Calls Tryz.prog 80 #[.slice A xs.length c, .func (.func g) #[] lb] w fun e w' => e = .returned (.int .i64 r) ∧ Below w.heap.size w w' := by
 have hbig : xs.length ≤ 9223372036854775807 := hr.2.1
 have HR := am_ hr
 have HP := am_ hp
 have HX := am_ h
 clear hr hp h
 go_enter Tryz.func80, Tryz.ntmps80
 go_wp2
 go_loopg [5, 8] xs.length (fun gg _ s8 wr => ∃ x : Int, s8 = .int .i64 x ∧ Aside0 (0 ≤ x ∧ x ≤ xs.length ∧ xs.length - x.toNat ≤ gg ∧ idxO f (xs.drop x.toNat) x = some r ∧ Below w.heap.size w wr))
 case atStart => exact ⟨0, rfl, ⟨by omega, by omega, by simp, by simpa using HX.out, Below.refl _ _⟩⟩
 case round =>
  obtain ⟨x, rfl, HI⟩ := hrel; obtain ⟨x0, x1, hg, hi, BW⟩ := HI.out
  by_cases hlt : x < (xs.length : Int)
  ·have c4 : decide (x < (xs.length : Int)) = true := decide_eq_true hlt
   have c5 : decide (0 ≤ x) = true := decide_eq_true x0; obtain ⟨ad, cs, rfl, hl, hK, hcell⟩ := Kd.C_get (Kd.C_below HR.out BW) (z50 : S50) x x0 hlt; obtain ⟨b, hb, hm, ht, hf⟩ := idxO_step (z50 : S50) x0 hlt hi; generalize xs.getD x.toNat (z50 : S50) = p at hK hb hm; have hK0 := hK; obtain rfl := k50_open hK; have hcell1 : ∀ j u, ([(.int .i64 p.f0), (.int .i64 p.f1), (.string p.f2)] : List Value)[j]? = some u → wr.cell? (ad.add (x.toNat * 3 + j)) = some u := hcell; have hc0 : wr.cell? (ad.add (x.toNat * 3)) = some (.int .i64 p.f0) := hcell1 0 _ rfl; (have hc1 : wr.cell? ⟨(ad.add (x.toNat * 3)).block, (ad.add (x.toNat * 3)).off + 1, none⟩ = some (.int .i64 p.f1) := by rw [← add_field _ _ 1 (by omega)]; exact hcell1 1 _ rfl); (have hc2 : wr.cell? ⟨(ad.add (x.toNat * 3)).block, (ad.add (x.toNat * 3)).off + 2, none⟩ = some (.string p.f2) := by rw [← add_field _ _ 2 (by omega)]; exact hcell1 2 _ rfl); have hcall : Calls Tryz.prog g (#[(.agg #[(.int .i64 p.f0), (.int .i64 p.f1), (.string p.f2)])] ++ lb) wr (fun e w' => e = .returned (.bool b) ∧ Below wr.heap.size wr w') := HP.out wr _ _ b BW hm hK0 hb
   cases b with
   | true =>
    have HJ := am_ (And.intro (ht rfl) BW); clear hcell hcell1 hK hb hm ht hf hi BW HI hg hl hK0
    go_wp2_with (go_at_fn g; refine hcall.mono ?_; rintro e w' ⟨rfl, hb'⟩)
    go_ret
    exact ⟨ret_int_eq HJ.out.1.symm, HJ.out.2.trans (hb'.mono HJ.out.2.size)⟩
   | false =>
    have HJ := am_ (And.intro hg (And.intro (hf rfl) BW)); clear hcell hcell1 hK hb hm ht hf hi BW HI hg hl hK0
    go_wp2_with (go_at_fn g; refine hcall.mono ?_; rintro e w' ⟨rfl, hb'⟩)
    go_roundg (xs.length - (x.toNat + 1))
    case measure => have := HJ.out.1; omega
    case rel => exact ⟨x + 1, by go_num, ⟨by omega, by omega, by omega, HJ.out.2.1, HJ.out.2.2.trans (hb'.mono HJ.out.2.2.size)⟩⟩
  ·have c4 : decide (x < (xs.length : Int)) = false := decide_eq_false hlt
   have hr : r = -1 := idxO_end hlt hi; clear hi HI; subst hr
   go_wp2
   go_ret
   exact ⟨rfl, BW⟩

/-! ### slices.ContainsFunc[[]loop.example/g00312/impl.Value,loop.example/g00312/impl.Value]: function 70 -/
set_option maxHeartbeats 4000000 in
set_option maxRecDepth 100000 in
theorem ContainsFunc_T50.calls (f : S50 → Option Bool) (g : Nat) (lb : Array Value) (eg : ∀ args w, (callFunc g args).run Tryz.prog w = .ok (.enter g args) w) (A : Option Addr) (c : Nat) (xs : List S50) (r : Int) (w : World) (hr : Kd.C k50 w A xs.length xs) (hp : CB Tryz.prog k50 (fun cs => Value.agg cs.toArray) g lb f xs w) (h : idxO f xs 0 = some r) :
  Calls Tryz.prog 70 #[.slice A xs.length c, .func (.func g) #[] lb] w fun e w' => e = .returned (.bool (decide (r ≥ 0))) ∧ Below w.heap.size w w' := by
 have hcall := IndexFunc_T50.calls f g lb eg A c xs r w hr hp h
 clear hr hp h
 go_enter Tryz.func70, Tryz.ntmps70
 go_wp2_with (go_at_call 80; refine hcall.mono ?_; rintro e w' ⟨rfl, hb'⟩)
 go_ret
 exact ⟨rfl, hb'⟩

-- NOT PRINTED: function 71 (impl_Value_1)

/-! ### loop.example/g00312/impl.areAll[loop.example/g00312/impl.Value]: function 60 -/
set_option maxHeartbeats 4000000 in
set_option maxRecDepth 100000 in
theorem areAll_T50.not (f : S50 → Option Bool) (g : Nat) (lb : Array Value) (eg : ∀ args w, (callFunc g args).run Tryz.prog w = .ok (.enter g args) w) (B : Nat) (xs : List S50) (w : World) (hB : B < w.heap.size) (hp : CB Tryz.prog k50 (fun cs => Value.agg cs.toArray) g lb f xs w) (hc : w.cell? ⟨B, 0, none⟩ = some (.func (.func g) #[] lb)) :
  CB Tryz.prog k50 (fun cs => Value.agg cs.toArray) 71 #[.pointer (some ⟨B, 0, none⟩)] (fun x => (f x).map not) xs w := by
   intro W x cs b hb hm hK hf; obtain ⟨t, ht, rfl⟩ := Option.map_eq_some_iff.1 hf; have hK0 := hK; have hc' : W.cell? ⟨B, 0, none⟩ = some (.func (.func g) #[] lb) := (hb.cell (p := ⟨B, 0, none⟩) hB).trans hc; obtain rfl := k50_open hK; (have hcall : ∀ W1, Below W.heap.size W W1 → Calls Tryz.prog g (#[(.agg #[(.int .i64 x.f0), (.int .i64 x.f1), (.string x.f2)])] ++ lb) W1 (fun e w' => e = .returned (.bool t) ∧ Below W1.heap.size W1 w') := fun W1 h1 => hp W1 x _ t (hb.trans (h1.mono hb.size)) hm (Kd.K_below _ h1 hK0) ht); (have hcd := fun o : Obj => cell_alloc_old o hc'); (have HN := am_ (show B ≠ W.heap.size from fun e => by have := hb.size; omega)); clear hp hf hK hK0 hm hb hc ht; have hBW := HN.out; have hBW' := Ne.symm hBW
   show Calls Tryz.prog 71 #[(.agg #[(.int .i64 x.f0), (.int .i64 x.f1), (.string x.f2)]), .pointer (some ⟨B, 0, none⟩)] W _
   go_enter Tryz.func71, Tryz.ntmps71
   go_wp2_with (go_at_fn g; refine (hcall _ (by first | exact Below.refl _ _ | exact below_alloc (Below.refl _ _) _)).mono ?_; rintro e w' ⟨rfl, hb'⟩)
   go_ret
   (exact ⟨rfl, by first | exact hb' | exact (below_alloc (Below.refl _ _) _ : Below W.heap.size W _).trans (hb'.mono (by simp))⟩)
set_option maxHeartbeats 4000000 in
set_option maxRecDepth 100000 in
theorem areAll_T50.calls (f : S50 → Option Bool) (g : Nat) (lb : Array Value) (eg : ∀ args w, (callFunc g args).run Tryz.prog w = .ok (.enter g args) w) (A : Option Addr) (c : Nat) (xs : List S50) (r : Bool) (w : World) (hr : Kd.C k50 w A xs.length xs) (hp : CB Tryz.prog k50 (fun cs => Value.agg cs.toArray) g lb f xs w) (h : allO f xs = some r) :
  Calls Tryz.prog 60 #[.slice A xs.length c, .func (.func g) #[] lb] w fun e w' => e = .returned (.bool r) ∧ Below w.heap.size w w' := by
 obtain ⟨j, hj, hjr⟩ := idxO_not h 0 (Int.le_refl _)
 have e_l : ∀ args w, (callFunc 71 args).run Tryz.prog w = .ok (.enter 71 args) w := enters_of Tryz.func71 (by kernel_rfl) rfl
 have hB0 : Below w.heap.size w (w.alloc (.cells #[.func (.func g) #[] lb] 76)) := below_alloc (Below.refl _ _) _
 have hp1 := CB.later hB0 hp
 have hnot := areAll_T50.not f g lb eg w.heap.size xs _ (by simp) hp1 (by simp)
 have hcall := ContainsFunc_T50.calls _ 71 _ e_l A c xs j _ (Kd.C_below hr hB0) hnot hj
 have HJ := am_ hjr
 clear hr hp h hjr hj hp1 hnot hB0
 go_enter Tryz.func60, Tryz.ntmps60
 go_wp2_with (go_at_call 70; refine hcall.mono ?_; rintro e w' ⟨rfl, hb'⟩)
 go_ret
 exact ⟨ret_bool_eq (by rw [HJ.out]; cases r <;> rfl), (below_alloc (Below.refl _ _) _ : Below w.heap.size w _).trans (hb'.mono (by simp))⟩

/-! ### impl_isRow: function 43 -/
-- by hand
def impl_isRow.f (l0 : List S50) (a1 : Int) : Option Bool := if (l0.length : Int) = a1 then allO (fun x => impl_ValueOk.f x.f0 x.f1 x.f2) l0 else some false
theorem ValueOk_cb (xs : List S50) (w : World) : CB Tryz.prog k50 (fun cs => Value.agg cs.toArray) 46 #[] (fun x => impl_ValueOk.f x.f0 x.f1 x.f2) xs w := by
  intro W x cs b _ _ hK hf
  obtain rfl := k50_open hK
  refine Calls.mono (show Calls Tryz.prog 46 #[.agg #[.int .i64 x.f0, .int .i64 x.f1, .string x.f2]] W _ from impl_ValueOk.calls _ _ _ b W hf) ?_
  rintro e w' ⟨rfl, hb⟩
  exact ⟨rfl, by first | exact hb | (obtain ⟨nd, rfl⟩ := hb; exact pw_below_drewN (Below.refl _ _) _)⟩
set_option maxHeartbeats 1000000 in
set_option maxRecDepth 100000 in
theorem impl_isRow.calls (A0 : Option Addr) (c0 : Nat) (l0 : List (S50)) (a1 : Int) (r : Bool) (w : World) (hr0 : Kd.C k50 w A0 l0.length l0) (hc0 : l0.length ≤ c0) (h : impl_isRow.f l0 a1 = some r) :
    Calls Tryz.prog 43 #[.slice A0 l0.length c0, .int .i64 a1] w fun e w' => e = .returned (.bool r) ∧ Below w.heap.size w w' := by
  unfold impl_isRow.f at h
  by_cases hl : (l0.length : Int) = a1
  · rw [if_pos hl] at h
    have eg : ∀ args w, (callFunc 46 args).run Tryz.prog w = .ok (.enter 46 args) w := enters_of Tryz.func46 (by kernel_rfl) rfl
    have hcall := fun W (hb : Below w.heap.size w W) => areAll_T50.calls _ 46 #[] eg A0 c0 l0 r W (Kd.C_below hr0 hb) (ValueOk_cb l0 W) h
    have hl1 : ((l0.length : Int) == a1) = true := beq_iff_eq.mpr hl
    clear hr0 h hl
    go_enter Tryz.func43, Tryz.ntmps43
    go_wp2_with (go_at_call 60; refine (hcall _ (by repeat (first | exact Below.refl _ _ | apply below_alloc | apply pw_below_drewN))).mono ?_; rintro e w' ⟨rfl, hb'⟩)
    go_ret
    exact ⟨rfl, by first | exact hb' | exact (pw_below_drewN (Below.refl _ _) _ : Below w.heap.size w _).trans hb'⟩
  · rw [if_neg hl] at h
    obtain rfl := Option.some.inj h
    have hl1 : ((l0.length : Int) == a1) = false := beq_eq_false_iff_ne.mpr hl
    clear h hl
    go_enter Tryz.func43, Tryz.ntmps43
    go_wp2
    go_ret
    exact ⟨rfl, by repeat (first | exact Below.refl _ _ | apply pw_below_drewN)⟩

/-! ### slices.CompareFunc[[]loop.example/g00312/impl.Value,[]loop.example/g00312/impl.Value,loop.example/g00312/impl.Value,loop.example/g00312/impl.Value]: function 61 -/
set_option maxHeartbeats 4000000 in
set_option maxRecDepth 100000 in
theorem CompareFunc_T50.calls (f : S50 → S50 → Option Int) (g : Nat) (lb : Array Value) (eg : ∀ args w, (callFunc g args).run Tryz.prog w = .ok (.enter g args) w) (A : Option Addr) (c : Nat) (xs : List S50) (B : Option Addr) (d : Nat) (ys : List S50) (r : Int) (w : World) (hr : Kd.C k50 w A xs.length xs) (hs : Kd.C k50 w B ys.length ys) (hp : CB2 Tryz.prog k50 (fun cs => Value.agg cs.toArray) g lb f xs ys w) (h : cmpO f xs ys = some r) :
  Calls Tryz.prog 61 #[.slice A xs.length c, .slice B ys.length d, .func (.func g) #[] lb] w fun e w' => e = .returned (.int .i64 r) ∧ Below w.heap.size w w' := by
 have hu := Tryz.underlying50
 have hbig : xs.length ≤ 9223372036854775807 := hr.2.1
 have HR := am_ hr
 have HS := am_ hs
 have HP := am_ hp
 have HX := am_ h
 clear hr hs hp h
 go_enter Tryz.func61, Tryz.ntmps61
 go_wp2
 go_loopg [13] xs.length (fun gg s13 wr => ∃ x : Int, s13 = .int .i64 x ∧ Aside0 (0 ≤ x ∧ x ≤ xs.length ∧ x ≤ ys.length ∧ xs.length - x.toNat ≤ gg ∧ cmpO f (xs.drop x.toNat) (ys.drop x.toNat) = some r ∧ Below w.heap.size w wr))
 case atStart => exact ⟨0, rfl, ⟨by omega, by omega, by omega, by simp, by simpa using HX.out, Below.refl _ _⟩⟩
 case round =>
  obtain ⟨x, rfl, HI⟩ := hrel; obtain ⟨x0, x1, x2, hg, hi, BW⟩ := HI.out
  by_cases hlt : x < (xs.length : Int)
  ·have c4 : decide (x < (xs.length : Int)) = true := decide_eq_true hlt
   have c5 : decide (0 ≤ x) = true := decide_eq_true x0; obtain ⟨ad, cs, rfl, hl, hK, hcella⟩ := Kd.C_get (Kd.C_below HR.out BW) (z50 : S50) x x0 hlt
   by_cases hlt2 : x < (ys.length : Int)
   ·have c6 : decide (x < (ys.length : Int)) = true := decide_eq_true hlt2
    have c7 : decide ((ys.length : Int) ≤ x) = false := decide_eq_false (by omega); obtain ⟨ae, ds, rfl, hm, hL, hcellb⟩ := Kd.C_get (Kd.C_below HS.out BW) (z50 : S50) x x0 hlt2; obtain ⟨b, hb, hxm, hym, ht, hf⟩ := cmpO_step (z50 : S50) x0 hlt hlt2 hi; generalize xs.getD x.toNat (z50 : S50) = p at hK hb hxm; generalize ys.getD x.toNat (z50 : S50) = q at hL hb hym; obtain rfl := k50_open hK; obtain rfl := k50_open hL; replace hcella : ∀ j u, ([(.int .i64 p.f0), (.int .i64 p.f1), (.string p.f2)] : List Value)[j]? = some u → wr.cell? (ad.add (x.toNat * 3 + j)) = some u := hcella; have hca0 : wr.cell? (ad.add (x.toNat * 3)) = some (.int .i64 p.f0) := hcella 0 _ rfl; (have hca1 : wr.cell? ⟨(ad.add (x.toNat * 3)).block, (ad.add (x.toNat * 3)).off + 1, none⟩ = some (.int .i64 p.f1) := by rw [← add_field _ _ 1 (by omega)]; exact hcella 1 _ rfl); (have hca2 : wr.cell? ⟨(ad.add (x.toNat * 3)).block, (ad.add (x.toNat * 3)).off + 2, none⟩ = some (.string p.f2) := by rw [← add_field _ _ 2 (by omega)]; exact hcella 2 _ rfl); replace hcellb : ∀ j u, ([(.int .i64 q.f0), (.int .i64 q.f1), (.string q.f2)] : List Value)[j]? = some u → wr.cell? (ae.add (x.toNat * 3 + j)) = some u := hcellb; have hcb0 : wr.cell? (ae.add (x.toNat * 3)) = some (.int .i64 q.f0) := hcellb 0 _ rfl; (have hcb1 : wr.cell? ⟨(ae.add (x.toNat * 3)).block, (ae.add (x.toNat * 3)).off + 1, none⟩ = some (.int .i64 q.f1) := by rw [← add_field _ _ 1 (by omega)]; exact hcellb 1 _ rfl); (have hcb2 : wr.cell? ⟨(ae.add (x.toNat * 3)).block, (ae.add (x.toNat * 3)).off + 2, none⟩ = some (.string q.f2) := by rw [← add_field _ _ 2 (by omega)]; exact hcellb 2 _ rfl); (have hcall : ∀ W, Below wr.heap.size wr W → Calls Tryz.prog g (#[(.agg #[(.int .i64 p.f0), (.int .i64 p.f1), (.string p.f2)]), (.agg #[(.int .i64 q.f0), (.int .i64 q.f1), (.string q.f2)])] ++ lb) W fun e w' => e = .returned (.int .i64 b) ∧ Below W.heap.size W w' := fun W hW => HP.out W _ _ _ _ b (BW.trans (hW.mono BW.size)) hxm hym (Kd.K_below _ hW hK) (Kd.K_below _ hW hL) hb); have HC := am_ hcall; (have hd0 := fun o : Obj => cell_alloc_old o hcb0); (have hd1 := fun o : Obj => cell_alloc_old o hcb1); (have hd2 := fun o : Obj => cell_alloc_old o hcb2); (have hz1 : wr.heap.size ≠ wr.heap.size + 1 := by omega); (have hz2 : wr.heap.size + 1 ≠ wr.heap.size := by omega); have HA := am_ (Addr_lt hca0); have HB := am_ (Addr_lt hcb0); have hn1 : (ad.add (x.toNat * 3)).block ≠ wr.heap.size := Nat.ne_of_lt HA.out; have hn2 : (ae.add (x.toNat * 3)).block ≠ wr.heap.size := Nat.ne_of_lt HB.out
    by_cases hb0 : b = 0
    ·subst hb0
     have HJ := am_ (And.intro hg (And.intro (hf rfl) BW)); clear hcella hcellb hK hL hb hxm hym ht hf hi BW HI hg hl hm hcall
     go_wp2_with (go_at_fn g; refine (HC.out _ ?_).mono ?_; (repeat (first | exact Below.refl _ _ | apply below_alloc | (refine below_set ?_ (by simp)))); rintro e w' ⟨rfl, hb'⟩)
     go_roundg (xs.length - (x.toNat + 1))
     case measure => have := HJ.out.1; omega
     case rel => exact ⟨x + 1, by go_num, ⟨by omega, by omega, by omega, by omega, HJ.out.2.1, HJ.out.2.2.trans (((show Below wr.heap.size wr _ from by repeat (first | exact Below.refl _ _ | apply below_alloc | (refine below_set ?_ (by simp)))).trans (hb'.mono (by simp <;> omega))).mono HJ.out.2.2.size)⟩⟩
    ·have hb1 : (b == 0) = false := beq_eq_false_iff_ne.mpr hb0
     have hb2 : (b != 0) = true := bne_iff_ne.mpr hb0; have HJ := am_ (And.intro (ht hb0) BW); clear hcella hcellb hK hL hb hxm hym ht hf hi BW HI hg hl hm hcall
     go_wp2_with (go_at_fn g; refine (HC.out _ ?_).mono ?_; (repeat (first | exact Below.refl _ _ | apply below_alloc | (refine below_set ?_ (by simp)))); rintro e w' ⟨rfl, hb'⟩)
     go_ret
     (exact ⟨ret_int_eq HJ.out.1.symm, HJ.out.2.trans (((show Below wr.heap.size wr _ from by repeat (first | exact Below.refl _ _ | apply below_alloc | (refine below_set ?_ (by simp)))).trans (hb'.mono (by simp <;> omega))).mono HJ.out.2.size)⟩)
   ·have c7 : decide ((ys.length : Int) ≤ x) = true := decide_eq_true (by omega)
    have hr1 : r = 1 := cmpO_right hlt hlt2 x0 hi; subst hr1; generalize xs.getD x.toNat (z50 : S50) = p at hK; obtain rfl := k50_open hK; replace hcella : ∀ j u, ([(.int .i64 p.f0), (.int .i64 p.f1), (.string p.f2)] : List Value)[j]? = some u → wr.cell? (ad.add (x.toNat * 3 + j)) = some u := hcella; have hca0 : wr.cell? (ad.add (x.toNat * 3)) = some (.int .i64 p.f0) := hcella 0 _ rfl; (have hca1 : wr.cell? ⟨(ad.add (x.toNat * 3)).block, (ad.add (x.toNat * 3)).off + 1, none⟩ = some (.int .i64 p.f1) := by rw [← add_field _ _ 1 (by omega)]; exact hcella 1 _ rfl); (have hca2 : wr.cell? ⟨(ad.add (x.toNat * 3)).block, (ad.add (x.toNat * 3)).off + 2, none⟩ = some (.string p.f2) := by rw [← add_field _ _ 2 (by omega)]; exact hcella 2 _ rfl); have HJ := am_ BW; clear hcella hK hi BW HI hg hl
    go_wp2
    go_ret
    (exact ⟨rfl, HJ.out.trans ((show Below wr.heap.size wr _ from by repeat (first | exact Below.refl _ _ | apply below_alloc | (refine below_set ?_ (by simp)))).mono HJ.out.size)⟩)
  ·have c4 : decide (x < (xs.length : Int)) = false := decide_eq_false hlt
   by_cases hlt2 : x < (ys.length : Int)
   ·have c6 : decide ((xs.length : Int) < (ys.length : Int)) = true := decide_eq_true (by omega)
    (have c8 : xs.length < ys.length := by omega); have hr1 : r = -1 := cmpO_left hlt hlt2 x0 hi; subst hr1; clear hi HI
    go_wp2
    go_ret
    exact ⟨rfl, BW⟩
   ·have c6 : decide ((xs.length : Int) < (ys.length : Int)) = false := decide_eq_false (by omega)
    (have c8 : ¬ xs.length < ys.length := by omega); have hr1 : r = 0 := cmpO_end hlt hlt2 hi; subst hr1; clear hi HI
    go_wp2
    go_ret
    exact ⟨rfl, BW⟩

/-! ### cmp_Or_int: function 72 -/
def cmp_Or_int.l0 : Nat → Int → List Int → Int → Int → Option (Int)
 | 0, _, _, _, _ => none
 | k + 1, x3, x6, x7, x8 => if x8 < x7 then (if 0 ≤ x8 then (if x8 < (x6.length : Int) then (if (rd x6 x8) = x3 then (cmp_Or_int.l0 k x3 x6 x7 (wrap64 (x8 + 1))) else (some (rd x6 x8))) else (none)) else (none)) else (some x3)
def cmp_Or_int.f (k : Nat) (l0 : List Int) : Option (Int) := cmp_Or_int.l0 k 0 l0 (l0.length : Int) 0
set_option maxHeartbeats 8000000 in
set_option maxRecDepth 100000 in
theorem cmp_Or_int.calls (k : Nat) (A0 : Option Addr) (c0 : Nat) (l0 : List Int) (r : Int) (w : World) (hr0 : Kd.C (Kd.int .i64) w A0 l0.length l0) (hc0 : l0.length ≤ c0) (h : cmp_Or_int.f k l0 = some r) :
  Calls Tryz.prog 72 #[.slice A0 l0.length c0] w fun e w' => e = .returned (.int .i64 r) ∧ Drawn0 w w' := by
 have HR0 := am_ hr0
 have HC0 := am_ hc0
 clear hr0 hc0
 have H : (cmp_Or_int.l0 k 0 l0 (l0.length : Int) 0) = some r := h
 clear h
 have H' := am_ H
 clear H
 go_enter Tryz.func72, Tryz.ntmps72
 go_wp2
 go_loopg [8] k (fun kq v8 w' => ∃ (x8_1 : Int), v8 = .int .i64 x8_1 ∧ Aside0 (cmp_Or_int.l0 kq 0 l0 (l0.length : Int) x8_1 = some r) ∧ Aside0 (kq ≤ k) ∧ Drawn0 w w')
 case atStart => exact ⟨(0), rs_, H', ⟨Nat.le_refl _⟩, by repeat (first | exact Drawn0.refl _ | apply Drawn0.step)⟩
 case round =>
  clear H'; obtain ⟨x8_1, rfl, HA, HK1, ⟨m1, rfl⟩⟩ := hrel
  cases gk with
  | zero => exact absurd HA.out (by simp [cmp_Or_int.l0])
  | succ k1 =>
   have H := HA.out; clear HA; simp only [cmp_Or_int.l0] at H
   by_cases c2 : x8_1 < (l0.length : Int)
   ·rw [if_pos c2] at H
    have c2b0 := decide_eq_true c2; clear c2
    by_cases c3 : 0 ≤ x8_1
    ·rw [if_pos c3] at H
     have c3b0 := decide_eq_true c3; clear c3
     by_cases c4 : x8_1 < (l0.length : Int)
     ·rw [if_pos c4] at H
      have c4b0 := decide_eq_true c4; clear c4
      by_cases c5 : (rd l0 x8_1) = 0
      ·rw [if_pos c5] at H
       have c5b0 : ((rd l0 x8_1) == 0) = true := beq_iff_eq.mpr c5; have c5b1 : ((rd l0 x8_1) != 0) = false := bne_eq_false_iff_eq.mpr c5; clear c5; have H' := am_ H; clear H; (have p272 : 0 ≤ (x8_1 : Int) := oa_); (have q272 : x8_1 < (l0.length : Int) := oa_); obtain ⟨ad272, e272, hx272_0⟩ := Kd.at_int HR0.out x8_1 p272 q272; cases e272; replace p272 := eq_true p272; replace q272 := eq_true q272
       go_wp2
       go_roundg k1
       case measure => have := HK1.out; omega
       case rel => exact ⟨(wrap64 (x8_1 + 1)), rs_, H', ⟨by have := HK1.out; omega⟩, by repeat (first | exact Drawn0.refl _ | apply Drawn0.step)⟩
      ·rw [if_neg c5] at H
       have c5b0 : ((rd l0 x8_1) == 0) = false := beq_eq_false_iff_ne.mpr c5; have c5b1 : ((rd l0 x8_1) != 0) = true := bne_iff_ne.mpr c5; obtain rfl := Option.some.inj H; (have p272 : 0 ≤ (x8_1 : Int) := oa_); (have q272 : x8_1 < (l0.length : Int) := oa_); obtain ⟨ad272, e272, hx272_0⟩ := Kd.at_int HR0.out x8_1 p272 q272; cases e272; replace p272 := eq_true p272; replace q272 := eq_true q272
       go_wp2
       go_ret
       (exact ⟨by first | rfl | (simp; done) | (simp [*]; done), by repeat (first | exact Drawn0.refl _ | apply Drawn0.step)⟩)
     ·rw [if_neg c4] at H
      exact nn_ H
    ·rw [if_neg c3] at H
     exact nn_ H
   ·rw [if_neg c2] at H
    have c2b0 := decide_eq_false c2; clear c2; obtain rfl := Option.some.inj H
    go_wp2
    go_ret
    (exact ⟨by first | rfl | (simp; done) | (simp [*]; done), by repeat (first | exact Drawn0.refl _ | apply Drawn0.step)⟩)

/-! ### cmp_isNaN_int: function 81 -/
def cmp_isNaN_int.f (a0 : Int) : Option (Bool) := some (a0 != a0)
set_option maxHeartbeats 8000000 in
set_option maxRecDepth 100000 in
theorem cmp_isNaN_int.calls (a0 : Int) (r : Bool) (w : World) (h : cmp_isNaN_int.f a0 = some r) :
  Calls Tryz.prog 81 #[.int .i64 a0] w fun e w' => e = .returned (.bool r) ∧ Drawn0 w w' := by
 have H : (some (a0 != a0)) = some r := h
 clear h
 obtain rfl := Option.some.inj H
 go_enter Tryz.func81, Tryz.ntmps81
 go_wp2
 go_ret
 exact ⟨by first | rfl | (simp; done) | (simp [*]; done), by repeat (first | exact Drawn0.refl _ | apply Drawn0.step)⟩

/-! ### cmp_Compare_int: function 73 -/
def cmp_Compare_int.f (a0 : Int) (a1 : Int) : Option (Int) := (cmp_isNaN_int.f a0).bind fun t273 => ((cmp_isNaN_int.f a1).bind fun t274 => (if t273 = true then (if t274 = true then (some 0) else (some (-1))) else (if t274 = true then (some 1) else (if a0 < a1 then (some (-1)) else (if a0 > a1 then (some 1) else (some 0))))))
set_option maxHeartbeats 8000000 in
set_option maxRecDepth 100000 in
theorem cmp_Compare_int.calls (a0 : Int) (a1 : Int) (r : Int) (w : World) (h : cmp_Compare_int.f a0 a1 = some r) :
  Calls Tryz.prog 73 #[.int .i64 a0, .int .i64 a1] w fun e w' => e = .returned (.int .i64 r) ∧ Drawn0 w w' := by
 have H : ((cmp_isNaN_int.f a0).bind fun t273 => ((cmp_isNaN_int.f a1).bind fun t274 => (if t273 = true then (if t274 = true then (some 0) else (some (-1))) else (if t274 = true then (some 1) else (if a0 < a1 then (some (-1)) else (if a0 > a1 then (some 1) else (some 0))))))) = some r := h
 clear h
 replace H := bsi_ H
 obtain ⟨t273, A30, H⟩ := H
 try dsimp only at H
 have A3 := am_ A30
 clear A30
 replace H := bsi_ H
 obtain ⟨t274, A40, H⟩ := H
 try dsimp only at H
 have A4 := am_ A40
 clear A40
 by_cases c5 : t273 = true
 ·subst c5
  rw [if_pos rfl] at H
  by_cases c6 : t274 = true
  ·subst c6
   rw [if_pos rfl] at H; obtain rfl := Option.some.inj H
   go_enter Tryz.func73, Tryz.ntmps73
   go_wp2_with (first | ((with_reducible refine gate_callee (f := 81) rfl ?_); refine gsL_ (some 8) Tryz.func81 #[.int .i64 a0] ?_; (with_reducible refine (cmp_isNaN_int.calls a0 true _ A3.out).mono ?_); rintro e w' ⟨rfl, ⟨nd, rfl⟩⟩; refine ⟨_, rfl, ?_⟩) | ((with_reducible refine gate_callee (f := 81) rfl ?_); refine gsL_ (some 10) Tryz.func81 #[.int .i64 a1] ?_; (with_reducible refine (cmp_isNaN_int.calls a1 true _ A4.out).mono ?_); rintro e w' ⟨rfl, ⟨nd, rfl⟩⟩; refine ⟨_, rfl, ?_⟩))
   go_ret
   (exact ⟨by first | rfl | (simp; done) | (simp [*]; done), by repeat (first | exact Drawn0.refl _ | apply Drawn0.step)⟩)
  ·replace c6 := Bool.eq_false_iff.mpr c6
   subst c6; (rw [if_neg (show ¬ (false = true) by decide)] at H); obtain rfl := Option.some.inj H
   go_enter Tryz.func73, Tryz.ntmps73
   go_wp2_with (first | ((with_reducible refine gate_callee (f := 81) rfl ?_); refine gsL_ (some 8) Tryz.func81 #[.int .i64 a0] ?_; (with_reducible refine (cmp_isNaN_int.calls a0 true _ A3.out).mono ?_); rintro e w' ⟨rfl, ⟨nd, rfl⟩⟩; refine ⟨_, rfl, ?_⟩) | ((with_reducible refine gate_callee (f := 81) rfl ?_); refine gsL_ (some 10) Tryz.func81 #[.int .i64 a1] ?_; (with_reducible refine (cmp_isNaN_int.calls a1 false _ A4.out).mono ?_); rintro e w' ⟨rfl, ⟨nd, rfl⟩⟩; refine ⟨_, rfl, ?_⟩))
   go_ret
   (exact ⟨by first | rfl | (simp; done) | (simp [*]; done), by repeat (first | exact Drawn0.refl _ | apply Drawn0.step)⟩)
 ·replace c5 := Bool.eq_false_iff.mpr c5
  subst c5; (rw [if_neg (show ¬ (false = true) by decide)] at H)
  by_cases c7 : t274 = true
  ·subst c7
   rw [if_pos rfl] at H; obtain rfl := Option.some.inj H
   go_enter Tryz.func73, Tryz.ntmps73
   go_wp2_with (first | ((with_reducible refine gate_callee (f := 81) rfl ?_); refine gsL_ (some 8) Tryz.func81 #[.int .i64 a0] ?_; (with_reducible refine (cmp_isNaN_int.calls a0 false _ A3.out).mono ?_); rintro e w' ⟨rfl, ⟨nd, rfl⟩⟩; refine ⟨_, rfl, ?_⟩) | ((with_reducible refine gate_callee (f := 81) rfl ?_); refine gsL_ (some 10) Tryz.func81 #[.int .i64 a1] ?_; (with_reducible refine (cmp_isNaN_int.calls a1 true _ A4.out).mono ?_); rintro e w' ⟨rfl, ⟨nd, rfl⟩⟩; refine ⟨_, rfl, ?_⟩))
   go_ret
   (exact ⟨by first | rfl | (simp; done) | (simp [*]; done), by repeat (first | exact Drawn0.refl _ | apply Drawn0.step)⟩)
  ·replace c7 := Bool.eq_false_iff.mpr c7
   subst c7; (rw [if_neg (show ¬ (false = true) by decide)] at H)
   by_cases c8 : a0 < a1
   ·rw [if_pos c8] at H
    have c8b0 := decide_eq_true c8; clear c8; obtain rfl := Option.some.inj H
    go_enter Tryz.func73, Tryz.ntmps73
    go_wp2_with (first | ((with_reducible refine gate_callee (f := 81) rfl ?_); refine gsL_ (some 8) Tryz.func81 #[.int .i64 a0] ?_; (with_reducible refine (cmp_isNaN_int.calls a0 false _ A3.out).mono ?_); rintro e w' ⟨rfl, ⟨nd, rfl⟩⟩; refine ⟨_, rfl, ?_⟩) | ((with_reducible refine gate_callee (f := 81) rfl ?_); refine gsL_ (some 10) Tryz.func81 #[.int .i64 a1] ?_; (with_reducible refine (cmp_isNaN_int.calls a1 false _ A4.out).mono ?_); rintro e w' ⟨rfl, ⟨nd, rfl⟩⟩; refine ⟨_, rfl, ?_⟩))
    go_ret
    (exact ⟨by first | rfl | (simp; done) | (simp [*]; done), by repeat (first | exact Drawn0.refl _ | apply Drawn0.step)⟩)
   ·rw [if_neg c8] at H
    have c8b0 := decide_eq_false c8; clear c8
    by_cases c9 : a0 > a1
    ·rw [if_pos c9] at H
     have c9b0 := decide_eq_true c9; clear c9; obtain rfl := Option.some.inj H
     go_enter Tryz.func73, Tryz.ntmps73
     go_wp2_with (first | ((with_reducible refine gate_callee (f := 81) rfl ?_); refine gsL_ (some 8) Tryz.func81 #[.int .i64 a0] ?_; (with_reducible refine (cmp_isNaN_int.calls a0 false _ A3.out).mono ?_); rintro e w' ⟨rfl, ⟨nd, rfl⟩⟩; refine ⟨_, rfl, ?_⟩) | ((with_reducible refine gate_callee (f := 81) rfl ?_); refine gsL_ (some 10) Tryz.func81 #[.int .i64 a1] ?_; (with_reducible refine (cmp_isNaN_int.calls a1 false _ A4.out).mono ?_); rintro e w' ⟨rfl, ⟨nd, rfl⟩⟩; refine ⟨_, rfl, ?_⟩))
     go_ret
     (exact ⟨by first | rfl | (simp; done) | (simp [*]; done), by repeat (first | exact Drawn0.refl _ | apply Drawn0.step)⟩)
    ·rw [if_neg c9] at H
     have c9b0 := decide_eq_false c9; clear c9; obtain rfl := Option.some.inj H
     go_enter Tryz.func73, Tryz.ntmps73
     go_wp2_with (first | ((with_reducible refine gate_callee (f := 81) rfl ?_); refine gsL_ (some 8) Tryz.func81 #[.int .i64 a0] ?_; (with_reducible refine (cmp_isNaN_int.calls a0 false _ A3.out).mono ?_); rintro e w' ⟨rfl, ⟨nd, rfl⟩⟩; refine ⟨_, rfl, ?_⟩) | ((with_reducible refine gate_callee (f := 81) rfl ?_); refine gsL_ (some 10) Tryz.func81 #[.int .i64 a1] ?_; (with_reducible refine (cmp_isNaN_int.calls a1 false _ A4.out).mono ?_); rintro e w' ⟨rfl, ⟨nd, rfl⟩⟩; refine ⟨_, rfl, ?_⟩))
     go_ret
     (exact ⟨by first | rfl | (simp; done) | (simp [*]; done), by repeat (first | exact Drawn0.refl _ | apply Drawn0.step)⟩)

-- NOT PRINTED: function 91 (bytealg_abigen_runtime_cmpstring)

/-! ### bytealg_CompareString: function 82 -/
-- by hand
def bytealg_CompareString.f (a0 : ByteArray) (a1 : ByteArray) : Option Int := some (Go.Lib.compareBytes a0.data.toList a1.data.toList)
set_option maxRecDepth 100000 in
theorem bytealg_CompareString.calls (a0 : ByteArray) (a1 : ByteArray) (r : Int) (w : World) (h : bytealg_CompareString.f a0 a1 = some r) :
    Calls Tryz.prog 82 #[.string a0, .string a1] w fun e w' => e = .returned (.int .i64 r) ∧ Drawn0 w w' := by
  obtain rfl := Option.some.inj h
  go_enter Tryz.func82, Tryz.ntmps82
  go_wp2
  rw [run_callFunc_extern Tryz.func91 (by kernel_rfl) (by kernel_rfl) (by kernel_rfl) (e := Extern.BytealgCompare.compare) (by kernel_rfl), Go.Lib.run_compareString]
  simp only [Result.andThen]
  rw [Oper.upon_value]
  go_wp2
  go_ret
  exact ⟨rfl, Drawn0.refl _⟩

/-! ### strings_Compare: function 74 -/
def strings_Compare.f (a0 : ByteArray) (a1 : ByteArray) : Option (Int) := (bytealg_CompareString.f a0 a1).bind fun t275 => (some t275)
set_option maxHeartbeats 8000000 in
set_option maxRecDepth 100000 in
theorem strings_Compare.calls (a0 : ByteArray) (a1 : ByteArray) (r : Int) (w : World) (h : strings_Compare.f a0 a1 = some r) :
  Calls Tryz.prog 74 #[.string a0, .string a1] w fun e w' => e = .returned (.int .i64 r) ∧ Drawn0 w w' := by
 have H : ((bytealg_CompareString.f a0 a1).bind fun t275 => (some t275)) = some r := h
 clear h
 replace H := bsi_ H
 obtain ⟨t275, A30, H⟩ := H
 try dsimp only at H
 have A3 := am_ A30
 clear A30
 obtain rfl := Option.some.inj H
 go_enter Tryz.func74, Tryz.ntmps74
 go_wp2_with (first | ((with_reducible refine gate_callee (f := 82) rfl ?_); refine gsL_ (some 7) Tryz.func82 #[.string a0, .string a1] ?_; (with_reducible refine (bytealg_CompareString.calls a0 a1 t275 _ A3.out).mono ?_); rintro e w' ⟨rfl, ⟨nd, rfl⟩⟩; refine ⟨_, rfl, ?_⟩))
 go_ret
 exact ⟨by first | rfl | (simp; done) | (simp [*]; done), by repeat (first | exact Drawn0.refl _ | apply Drawn0.step)⟩

/-! ### impl_CompareValue: function 62 -/
def impl_CompareValue.f (k : Nat) (a0_0 : Int) (a0_1 : Int) (a0_2 : ByteArray) (a1_0 : Int) (a1_1 : Int) (a1_2 : ByteArray) : Option (Int) := (cmp_Compare_int.f a0_0 a1_0).bind fun t278 => ((cmp_Compare_int.f a0_1 a1_1).bind fun t279 => ((strings_Compare.f a0_2 a1_2).bind fun t280 => ((cmp_Or_int.f k (([t278, t279, t280] : List Int))).bind fun t284 => (some t284))))
def impl_CompareValue.T1 : Bool × List (List Nat × List Nat) := (true, [([], []), ([0], [0]), ([], []), ([2], [2]), ([1, 3], [1, 3]), ([], []), ([5], [5]), ([], []), ([7], [7]), ([6, 8, 4], [6, 8]), ([], []), ([10], [10]), ([], []), ([12], [12]), ([11, 13, 9], [11, 13]), ([4, 9, 14], [4, 9, 14]), ([15, 14], [15]), ([16, 16, 0, 1, 2, 3, 4, 5, 6, 7, 8, 9, 10, 11, 12, 13, 14, 15, 16], [16])])
def impl_CompareValue.B1 : List Nat := [0, 1, 0, 4, 15, 0, 32, 0, 128, 511, 0, 1024, 0, 4096, 16383, 32767, 65535, 131071]
theorem impl_CompareValue.tab1 : rtab .any (opsOf Tryz.f62 1) = impl_CompareValue.T1 := by kernel_rfl
theorem impl_CompareValue.bits1 : waitsOk impl_CompareValue.T1.2 impl_CompareValue.B1 = true := by kernel_rfl
set_option maxHeartbeats 8000000 in
set_option maxRecDepth 100000 in
theorem impl_CompareValue.calls (k : Nat) (a0_0 : Int) (a0_1 : Int) (a0_2 : ByteArray) (a1_0 : Int) (a1_1 : Int) (a1_2 : ByteArray) (r : Int) (w : World) (h : impl_CompareValue.f k a0_0 a0_1 a0_2 a1_0 a1_1 a1_2 = some r) :
  Calls Tryz.prog 62 #[.agg #[.int .i64 a0_0, .int .i64 a0_1, .string a0_2], .agg #[.int .i64 a1_0, .int .i64 a1_1, .string a1_2]] w fun e w' => e = .returned (.int .i64 r) ∧ Below w.heap.size w w' := by
 have hu50 := Tryz.underlying50
 have HB := am_ (Below.refl w.heap.size w)
 have H : ((cmp_Compare_int.f a0_0 a1_0).bind fun t278 => ((cmp_Compare_int.f a0_1 a1_1).bind fun t279 => ((strings_Compare.f a0_2 a1_2).bind fun t280 => ((cmp_Or_int.f k (([t278, t279, t280] : List Int))).bind fun t284 => (some t284))))) = some r := h
 clear h
 replace H := bsi_ H
 obtain ⟨t278, A30, H⟩ := H
 try dsimp only at H
 have A3 := am_ A30
 clear A30
 replace H := bsi_ H
 obtain ⟨t279, A40, H⟩ := H
 try dsimp only at H
 have A4 := am_ A40
 clear A40
 replace H := bsi_ H
 obtain ⟨t280, A50, H⟩ := H
 try dsimp only at H
 have A5 := am_ A50
 clear A50
 obtain ⟨y281, hy281⟩ : ∃ y_ : List Int, y_ = (([t278, t279, t280] : List Int)) := ⟨_, rfl⟩
 replace H : ((cmp_Or_int.f k y281).bind fun t284 => (some t284)) = some r := by first | (rw [hy281]; with_reducible exact H) | (have H2_ := (Option.bind_some _ _).symm.trans H; rw [hy281]; with_reducible exact H2_) | (have H2_ := (Option.bind_some _ _).symm.trans H; with_reducible exact H2_) | with_reducible exact H | (rw [hy281]; exact H) | exact H
 have Ny281 := am_ hy281
 clear hy281
 replace H := bsi_ H
 obtain ⟨t284, A60, H⟩ := H
 try dsimp only at H
 have A6 := am_ A60
 clear A60
 obtain rfl := Option.some.inj H
 go_enter Tryz.func62, Tryz.ntmps62
 try go_wp2_with (first | ((with_reducible refine gate_dst (N := 2) rfl ?_); refine bx_ 2 #[.int .i64 a0_0, .int .i64 a0_1, .string a0_2] 50 ?_; intro gb276 hg w7 hbox hb; have BK276 := am_ (hbox); have GW276 := gw_ hg; have GE276 := gw_ hg; replace HB := bs_ hb; clear hb hbox hg) | ((with_reducible refine gate_dst (N := 3) rfl ?_); refine bx_ 3 #[.int .i64 a1_0, .int .i64 a1_1, .string a1_2] 50 ?_; intro gb277 hg w8 hbox hb; have BK277 := am_ (hbox); have GW277 := gw_ hg; have GE277 := gw_ hg; have NB276_277 := nl_ hg BK276; have NB277_276 := ng_ hg BK276; replace BK276 := bkb_ BK276 hb; replace HB := bs_ hb; clear hb hbox hg))
 replace BK276 := am_ (blk_drew BK276.out)
 replace BK277 := am_ (blk_drew BK277.out)
 replace HB := am_ (below_drew1 HB.out)
 refine start_ (n := 18) (S := fun w' => w'.cell? ⟨gb276, 0, none⟩ = some (.int .i64 a0_0) ∧ w'.cell? ⟨gb276, 1, none⟩ = some (.int .i64 a0_1) ∧ w'.cell? ⟨gb276, 2, none⟩ = some (.string a0_2) ∧ w'.cell? ⟨gb277, 0, none⟩ = some (.int .i64 a1_0) ∧ w'.cell? ⟨gb277, 1, none⟩ = some (.int .i64 a1_1) ∧ w'.cell? ⟨gb277, 2, none⟩ = some (.string a1_2)) (ds := []) (tf 0 18) (by kernel_rfl) rfl rfl ⟨bc_ BK276 0, bc_ BK276 1, bc_ BK276 2, bc_ BK277 0, bc_ BK277 1, bc_ BK277 2⟩ (fun hHeld => ?_); refine with_tabW impl_CompareValue.tab1 impl_CompareValue.bits1 (fun HT_ HW_ => ?_)
 generalize w8.drew = w9 at BK276 BK277 HB hHeld ⊢
 refine pl_ ?_
 refine plx_ 2 #[true, false, true, false, false, false, false, false, false, false, false, false, false, false, false, false, false, false] ?_
 refine plx_ 5 #[true, false, true, false, false, true, false, false, false, false, false, false, false, false, false, false, false, false] ?_
 refine plx_ 7 #[true, false, true, false, false, true, false, true, false, false, false, false, false, false, false, false, false, false] ?_
 refine plx_ 10 #[true, false, true, false, false, true, false, true, false, false, true, false, false, false, false, false, false, false] ?_
 refine plx_ 12 #[true, false, true, false, false, true, false, true, false, false, true, false, true, false, false, false, false, false] ?_
 refine tlx_ 1 #[true, true, true, false, false, true, false, true, false, false, true, false, true, false, false, false, false, false] ?_
 refine tlx_ 3 #[true, true, true, true, false, true, false, true, false, false, true, false, true, false, false, false, false, false] ?_
 refine tlx_ 6 #[true, true, true, true, false, true, true, true, false, false, true, false, true, false, false, false, false, false] ?_
 refine tlx_ 8 #[true, true, true, true, false, true, true, true, true, false, true, false, true, false, false, false, false, false] ?_
 refine tlx_ 11 #[true, true, true, true, false, true, true, true, true, false, true, true, true, false, false, false, false, false] ?_
 refine tlx_ 13 #[true, true, true, true, false, true, true, true, true, false, true, true, true, true, false, false, false, false] ?_
 refine on1_ (i := 4) (N := some 9) #[true, true, true, true, true, true, true, true, true, false, true, true, true, true, false, false, false, false] (h := fun K hK => ?_)
 refine gs_ Tryz.func73 #[.int .i64 a0_0, .int .i64 a1_0] ?_
 with_reducible refine (cmp_Compare_int.calls a0_0 a1_0 t278 _ A3.out).mono ?_
 rintro e w' ⟨rfl, ⟨nd, rfl⟩⟩
 refine ⟨_, rfl, ?_⟩
 refine hK.out _ _ ⟨bc_ BK276 0, bc_ BK276 1, bc_ BK276 2, bc_ BK277 0, bc_ BK277 1, bc_ BK277 2⟩ (fun hHeld => ?_)
 clear hK K
 refine nm_ ?_
 refine on1_ (i := 9) (N := some 14) (tf 14 4) (h := fun K hK => ?_)
 refine gs_ Tryz.func73 #[.int .i64 a0_1, .int .i64 a1_1] ?_
 with_reducible refine (cmp_Compare_int.calls a0_1 a1_1 t279 _ A4.out).mono ?_
 rintro e w' ⟨rfl, ⟨nd, rfl⟩⟩
 refine ⟨_, rfl, ?_⟩
 refine hK.out _ _ ⟨bc_ BK276 0, bc_ BK276 1, bc_ BK276 2, bc_ BK277 0, bc_ BK277 1, bc_ BK277 2⟩ (fun hHeld => ?_)
 clear hK K
 refine nm_ ?_
 refine on1_ (i := 14) (N := some 19) (tf 15 3) (h := fun K hK => ?_)
 refine gs_ Tryz.func74 #[.string a0_2, .string a1_2] ?_
 with_reducible refine (strings_Compare.calls a0_2 a1_2 t280 _ A5.out).mono ?_
 rintro e w' ⟨rfl, ⟨nd, rfl⟩⟩
 refine ⟨_, rfl, ?_⟩
 refine hK.out _ _ ⟨bc_ BK276 0, bc_ BK276 1, bc_ BK276 2, bc_ BK277 0, bc_ BK277 1, bc_ BK277 2⟩ (fun hHeld => ?_)
 clear hK K
 refine nm_ ?_
 refine on1_ (i := 15) (N := some 20) (tf 16 2) (h := fun K hK => ?_)
 refine Kd.R_lit_step (Kd.int .i64) _ 3 ?hg (N := 20) ?hd (xs := ([t278, t279, t280] : List Int)) (inner := [.int .i64 t278, .int .i64 t279, .int .i64 t280]) (ok := fun _ => True) (okp := fun _ => True) ?hr ?hp (fun _ hk => hk) trivial (Below.refl _ _) (Nat.le_refl _) (by simp) ?_; (case hd => rfl); (case hg => rfl); (case hr => first | (go_simp; done) | (go_simp; rfl)); (case hp => exact (Reps.one (show Kd.M (Kd.int .i64) _ _ _ t278 [.int .i64 t278] from rfl) (Reps.one (show Kd.M (Kd.int .i64) _ _ _ t279 [.int .i64 t279] from rfl) (Reps.one (show Kd.M (Kd.int .i64) _ _ _ t280 [.int .i64 t280] from rfl) (Reps.none _ _)))))
 intro v282 w10 ho11 hb hg_ hnew_
 clear hg_ hnew_
 (first | rw [← Ny281.out] at ho11 | (simp only [Int.reduceToNat] at ho11; rw [← Ny281.out] at ho11))
 have HO283 := am_ (Kd.R_lower ho11 (below_size bb_))
 replace BK276 := bkb_ BK276 hb
 replace BK277 := bkb_ BK277 hb
 replace HB := bs_ hb
 clear hb ho11
 obtain ⟨Ao12, co12, eo12⟩ := Kd.R_slice HO283.out
 (first | subst eo12 | (injection eo12 with f1_ f2_ f3_; have f4_ := f1_.symm; have f5_ := f3_.symm; clear f1_ f2_ f3_; subst f4_; subst f5_))
 refine hK.out _ _ ⟨bc_ BK276 0, bc_ BK276 1, bc_ BK276 2, bc_ BK277 0, bc_ BK277 1, bc_ BK277 2⟩ (fun hHeld => ?_)
 clear hK K
 refine nm_ ?_
 refine on1_ (i := 16) (N := some 21) (tf 17 1) (h := fun K hK => ?_)
 refine gs_ Tryz.func72 #[.slice Ao12 y281.length co12] ?_
 with_reducible refine (cmp_Or_int.calls k _ _ y281 t284 _ ?side1 ?side2 A6.out).mono ?_
 (case side1 => exact ck_ (Kd.R_reads' HO283.out).2.2)
 (case side2 => exact (Kd.R_reads' HO283.out).2.1)
 rintro e w' ⟨rfl, ⟨nd, rfl⟩⟩
 refine ⟨_, rfl, ?_⟩
 refine hK.out _ _ ⟨bc_ BK276 0, bc_ BK276 1, bc_ BK276 2, bc_ BK277 0, bc_ BK277 1, bc_ BK277 2⟩ (fun hHeld => ?_)
 clear hK K
 refine nm_ ?_
 refine plx_ 17 (tf 18 0) ?_
 refine done_ (done_of HT_.out (by kernel_rfl)) ?_
 try go_wp2
 go_ret
 exact ⟨er_, bb_⟩

/-! ### impl_CompareRow: function 44 -/
-- by hand
def impl_CompareRow.f (k : Nat) (l0 l1 : List S50) : Option Int := cmpO (fun x y => impl_CompareValue.f k x.f0 x.f1 x.f2 y.f0 y.f1 y.f2) l0 l1
theorem impl_CompareRow.calls (k : Nat) (A0 : Option Addr) (c0 : Nat) (l0 : List (S50)) (A1 : Option Addr) (c1 : Nat) (l1 : List (S50)) (r : Int) (w : World) (hr0 : Kd.C k50 w A0 l0.length l0) (hc0 : l0.length ≤ c0) (hr1 : Kd.C k50 w A1 l1.length l1) (hc1 : l1.length ≤ c1) (h : impl_CompareRow.f k l0 l1 = some r) :
    Calls Tryz.prog 44 #[.slice A0 l0.length c0, .slice A1 l1.length c1] w fun e w' => e = .returned (.int .i64 r) ∧ Below w.heap.size w w' := by
  have eg : ∀ args w, (callFunc 62 args).run Tryz.prog w = .ok (.enter 62 args) w := enters_of Tryz.func62 (by kernel_rfl) rfl
  have hcall := CompareFunc_T50.calls _ 62 #[] eg A0 c0 l0 A1 c1 l1 r w hr0 hr1 (fun W x y cs ds b hb _ _ hK hL hf => by
    obtain rfl := k50_open hK
    obtain rfl := k50_open hL
    exact impl_CompareValue.calls k _ _ _ _ _ _ b W hf) h
  clear hr0 hr1 h
  go_enter Tryz.func44, Tryz.ntmps44
  go_wp2_with (go_at_call 61; refine hcall.mono ?_; rintro e w' ⟨rfl, hb'⟩)
  go_ret
  exact ⟨rfl, hb'⟩
end Go.Proofs.YtoajedijckkjjaaGreatDoor.PFnBagBytes
