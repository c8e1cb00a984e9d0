-- WRITTEN BY xprint.py, a program of this session over the kit's printer: by nobody's hand
-- PRESSED TWICE
import Derived.Test.YthgdmdabdlgliaaPress
import Derived.Test.YthgdmdabdlgliaaPFnReckonx0
import Derived.Test.YthgdmdabdlgliaaPFnReckonx2
namespace Go.Proofs.Ythgdmdabdlgliaa.PFnReckon
open Go.RowKit Go.Proofs.YthgdmdabdlgliaaW.PrintWords Go.Proofs.YthgdmdabdlgliaaW.PrintLast Go.Proofs.YthgdmdabdlgliaaW.PrintMore
set_option linter.unusedVariables false
set_option linter.unusedSimpArgs false

/-! ### spec_DrawReckon: function 8 -/
def spec_DrawReckon.f (k : Nat) (l0 : List Int) : Option (ByteArray × Int × Int × ByteArray × Int × Int × ByteArray) := (spec_l01New.f k l0).bind fun bt187 => ((spec_l01Pick.f bt187.1 bt187.2.1 bt187.2.2 (([(⟨#[43]⟩ : ByteArray), (⟨#[45]⟩ : ByteArray), (⟨#[42]⟩ : ByteArray), (⟨#[47]⟩ : ByteArray), (⟨#[61]⟩ : ByteArray), (⟨#[60]⟩ : ByteArray), (⟨#[126]⟩ : ByteArray), (⟨#[97, 110, 100]⟩ : ByteArray), (⟨#[111, 114]⟩ : ByteArray), (⟨#[120]⟩ : ByteArray)] : List ByteArray))).bind fun bt194 => ((spec_l01Any.f k bt187.1 bt194.2.1 bt194.2.2).bind fun bt197 => ((spec_l01Any.f k bt187.1 bt197.2.2.2.1 bt197.2.2.2.2).bind fun bt203 => (some (bt194.1, bt197.1, bt197.2.1, bt197.2.2.1, bt203.1, bt203.2.1, bt203.2.2.1)))))
set_option maxHeartbeats 8000000 in
set_option maxRecDepth 100000 in
theorem spec_DrawReckon.calls (k : Nat) (A0 : Option Addr) (c0 : Nat) (l0 : List Int) (r1 : ByteArray) (r2 : Int) (r3 : Int) (r4 : ByteArray) (r5 : Int) (r6 : Int) (r7 : ByteArray) (w : World) (hr0 : Kd.C (Kd.int .u8) w A0 l0.length l0) (hc0 : l0.length ≤ c0) (h : spec_DrawReckon.f k l0 = some (r1, r2, r3, r4, r5, r6, r7)) :
  Calls Try.prog 8 #[.slice A0 l0.length c0] w fun e w' => e = .returned (.tuple #[.string r1, .agg #[.int .i64 r2, .int .i64 r3, .string r4], .agg #[.int .i64 r5, .int .i64 r6, .string r7]]) ∧ Below w.heap.size w w' := by
 have hu25 := Try.underlying25
 have HR0 := Aside0.mk hr0
 have HC0 := Aside0.mk hc0
 clear hr0 hc0
 have HB := Aside0.mk (Below.refl w.heap.size w)
 have H : ((spec_l01New.f k l0).bind fun bt187 => ((spec_l01Pick.f bt187.1 bt187.2.1 bt187.2.2 (([(⟨#[43]⟩ : ByteArray), (⟨#[45]⟩ : ByteArray), (⟨#[42]⟩ : ByteArray), (⟨#[47]⟩ : ByteArray), (⟨#[61]⟩ : ByteArray), (⟨#[60]⟩ : ByteArray), (⟨#[126]⟩ : ByteArray), (⟨#[97, 110, 100]⟩ : ByteArray), (⟨#[111, 114]⟩ : ByteArray), (⟨#[120]⟩ : ByteArray)] : List ByteArray))).bind fun bt194 => ((spec_l01Any.f k bt187.1 bt194.2.1 bt194.2.2).bind fun bt197 => ((spec_l01Any.f k bt187.1 bt197.2.2.2.1 bt197.2.2.2.2).bind fun bt203 => (some (bt194.1, bt197.1, bt197.2.1, bt197.2.2.1, bt203.1, bt203.2.1, bt203.2.2.1)))))) = some (r1, r2, r3, r4, r5, r6, r7) := h
 clear h
 replace H := Option.bind_eq_some_iff.mp H
 obtain ⟨⟨t187, t188, t189⟩, A20, H⟩ := H
 replace H : ((spec_l01Pick.f t187 t188 t189 (([(⟨#[43]⟩ : ByteArray), (⟨#[45]⟩ : ByteArray), (⟨#[42]⟩ : ByteArray), (⟨#[47]⟩ : ByteArray), (⟨#[61]⟩ : ByteArray), (⟨#[60]⟩ : ByteArray), (⟨#[126]⟩ : ByteArray), (⟨#[97, 110, 100]⟩ : ByteArray), (⟨#[111, 114]⟩ : ByteArray), (⟨#[120]⟩ : ByteArray)] : List ByteArray))).bind fun bt194 => ((spec_l01Any.f k t187 bt194.2.1 bt194.2.2).bind fun bt197 => ((spec_l01Any.f k t187 bt197.2.2.2.1 bt197.2.2.2.2).bind fun bt203 => (some (bt194.1, bt197.1, bt197.2.1, bt197.2.2.1, bt203.1, bt203.2.1, bt203.2.2.1))))) = some (r1, r2, r3, r4, r5, r6, r7) := H
 have A2 := Aside0.mk A20
 clear A20
 obtain ⟨y191, hy191⟩ : ∃ y_ : List ByteArray, y_ = (([(⟨#[43]⟩ : ByteArray), (⟨#[45]⟩ : ByteArray), (⟨#[42]⟩ : ByteArray), (⟨#[47]⟩ : ByteArray), (⟨#[61]⟩ : ByteArray), (⟨#[60]⟩ : ByteArray), (⟨#[126]⟩ : ByteArray), (⟨#[97, 110, 100]⟩ : ByteArray), (⟨#[111, 114]⟩ : ByteArray), (⟨#[120]⟩ : ByteArray)] : List ByteArray)) := ⟨_, rfl⟩
 replace H : ((spec_l01Pick.f t187 t188 t189 y191).bind fun bt194 => ((spec_l01Any.f k t187 bt194.2.1 bt194.2.2).bind fun bt197 => ((spec_l01Any.f k t187 bt197.2.2.2.1 bt197.2.2.2.2).bind fun bt203 => (some (bt194.1, bt197.1, bt197.2.1, bt197.2.2.1, bt203.1, bt203.2.1, bt203.2.2.1))))) = some (r1, r2, r3, r4, r5, r6, r7) := by first | (rw [hy191]; with_reducible exact H) | (have H2_ := (Option.bind_some _ _).symm.trans H; rw [hy191]; with_reducible exact H2_) | (have H2_ := (Option.bind_some _ _).symm.trans H; with_reducible exact H2_) | with_reducible exact H | (rw [hy191]; exact H) | exact H
 have Ny191 := Aside0.mk hy191
 clear hy191
 replace H := Option.bind_eq_some_iff.mp H
 obtain ⟨⟨t194, t195, t196⟩, A30, H⟩ := H
 replace H : ((spec_l01Any.f k t187 t195 t196).bind fun bt197 => ((spec_l01Any.f k t187 bt197.2.2.2.1 bt197.2.2.2.2).bind fun bt203 => (some (t194, bt197.1, bt197.2.1, bt197.2.2.1, bt203.1, bt203.2.1, bt203.2.2.1)))) = some (r1, r2, r3, r4, r5, r6, r7) := H
 have A3 := Aside0.mk A30
 clear A30
 replace H := Option.bind_eq_some_iff.mp H
 obtain ⟨⟨t197, t198, t199, t200, t201⟩, A40, H⟩ := H
 replace H : ((spec_l01Any.f k t187 t200 t201).bind fun bt203 => (some (t194, t197, t198, t199, bt203.1, bt203.2.1, bt203.2.2.1))) = some (r1, r2, r3, r4, r5, r6, r7) := H
 have A4 := Aside0.mk A40
 clear A40
 replace H := Option.bind_eq_some_iff.mp H
 obtain ⟨⟨t203, t204, t205, t206, t207⟩, A50, H⟩ := H
 replace H : (some (t194, t197, t198, t199, t203, t204, t205)) = some (r1, r2, r3, r4, r5, r6, r7) := H
 have A5 := Aside0.mk A50
 clear A50
 simp only [Option.some.injEq, Prod.mk.injEq] at H
 obtain ⟨rfl, rfl, rfl, rfl, rfl, rfl, rfl⟩ := H
 go_enter Try.func8, Try.ntmps8
 try go_wp2_with (first | ((with_reducible refine gate_dst (N := 3) rfl ?_); refine bx_ 3 #[.int .i64 0, .int .i64 0, .string (⟨#[]⟩ : ByteArray)] 25 ?_; intro gb185 hg w6 hbox hb; have BK185 := Aside0.mk (hbox); have GW185 := gw_ hg; have GE185 := gw_ hg; replace HB := bs_ hb; clear hb hbox hg) | ((with_reducible refine gate_dst (N := 4) rfl ?_); refine bx_ 4 #[.int .i64 0, .int .i64 0, .string (⟨#[]⟩ : ByteArray)] 25 ?_; intro gb186 hg w7 hbox hb; have BK186 := Aside0.mk (hbox); have GW186 := gw_ hg; have GE186 := gw_ hg; have NB185_186 := nl_ hg BK185; have NB186_185 := ng_ hg BK185; replace BK185 := bkb_ BK185 hb; replace HB := bs_ hb; clear hb hbox hg) | ((with_reducible refine gate_callee (f := 43) rfl ?_); refine gsL_ (some 9) Try.func43 #[.slice A0 l0.length c0] ?_; (with_reducible refine (spec_l01New.calls k _ _ l0 t187 t188 t189 w _ ?side1 ?side2 ?side3 A2.out).mono ?_); (case side1 => repeat (first | (with_reducible first | exact HB.out | apply below_alloc | apply pw_below_drewN | apply below_drew1 | refine below_set ?_ GE185.out | refine below_set ?_ GE186.out) | exact HB.out)); (case side2 => exact HR0.out); (case side3 => exact HC0.out); rintro e w8 ⟨g190, rfl, hi, hb, hb2⟩; refine ⟨_, rfl, ?_⟩; have HI190 := Aside0.mk (hi); have NB190_185 := Aside0.mk (IsS121.ne_blk hi (blk_below (g := gb185) (o := .cells #[.int .i64 0, .int .i64 0, .string (⟨#[]⟩ : ByteArray)] 25 (0, 0)) (bkx_ BK185.out) hb2) (by decide)); have NB185_190 := Aside0.mk (Ne.symm (IsS121.ne_blk hi (blk_below (g := gb185) (o := .cells #[.int .i64 0, .int .i64 0, .string (⟨#[]⟩ : ByteArray)] 25 (0, 0)) (bkx_ BK185.out) hb2) (by decide))); have NB190_186 := Aside0.mk (IsS121.ne_blk hi (blk_below (g := gb186) (o := .cells #[.int .i64 0, .int .i64 0, .string (⟨#[]⟩ : ByteArray)] 25 (0, 0)) (bkx_ BK186.out) hb2) (by decide)); have NB186_190 := Aside0.mk (Ne.symm (IsS121.ne_blk hi (blk_below (g := gb186) (o := .cells #[.int .i64 0, .int .i64 0, .string (⟨#[]⟩ : ByteArray)] 25 (0, 0)) (bkx_ BK186.out) hb2) (by decide))); replace BK185 := Aside0.mk (blk_below (g := gb185) (o := .cells #[.int .i64 0, .int .i64 0, .string (⟨#[]⟩ : ByteArray)] 25 (0, 0)) (bkx_ BK185.out) hb2); replace BK186 := Aside0.mk (blk_below (g := gb186) (o := .cells #[.int .i64 0, .int .i64 0, .string (⟨#[]⟩ : ByteArray)] 25 (0, 0)) (bkx_ BK186.out) hb2); replace HB := Aside0.mk (hb); (try clear hb)) | ((with_reducible refine gate_dst (N := 11) rfl ?_); refine Kd.R_lit Kd.string _ 9 ?hg (N := 11) ?hd (xs := ([(⟨#[43]⟩ : ByteArray), (⟨#[45]⟩ : ByteArray), (⟨#[42]⟩ : ByteArray), (⟨#[47]⟩ : ByteArray), (⟨#[61]⟩ : ByteArray), (⟨#[60]⟩ : ByteArray), (⟨#[126]⟩ : ByteArray), (⟨#[97, 110, 100]⟩ : ByteArray), (⟨#[111, 114]⟩ : ByteArray), (⟨#[120]⟩ : ByteArray)] : List ByteArray)) (inner := [.string (⟨#[43]⟩ : ByteArray), .string (⟨#[45]⟩ : ByteArray), .string (⟨#[42]⟩ : ByteArray), .string (⟨#[47]⟩ : ByteArray), .string (⟨#[61]⟩ : ByteArray), .string (⟨#[60]⟩ : ByteArray), .string (⟨#[126]⟩ : ByteArray), .string (⟨#[97, 110, 100]⟩ : ByteArray), .string (⟨#[111, 114]⟩ : ByteArray), .string (⟨#[120]⟩ : ByteArray)]) (ok := fun _ => True) (okp := fun _ => True) ?hr ?hp (fun _ hk => hk) trivial (Below.refl _ _) (Nat.le_refl _) (by simp) ?_; (case hd => rfl); (case hg => rfl); (case hr => first | (go_simp; done) | (go_simp; rfl)); (case hp => exact (Reps.one (show Kd.M Kd.string _ _ _ (⟨#[43]⟩ : ByteArray) [.string (⟨#[43]⟩ : ByteArray)] from rfl) (Reps.one (show Kd.M Kd.string _ _ _ (⟨#[45]⟩ : ByteArray) [.string (⟨#[45]⟩ : ByteArray)] from rfl) (Reps.one (show Kd.M Kd.string _ _ _ (⟨#[42]⟩ : ByteArray) [.string (⟨#[42]⟩ : ByteArray)] from rfl) (Reps.one (show Kd.M Kd.string _ _ _ (⟨#[47]⟩ : ByteArray) [.string (⟨#[47]⟩ : ByteArray)] from rfl) (Reps.one (show Kd.M Kd.string _ _ _ (⟨#[61]⟩ : ByteArray) [.string (⟨#[61]⟩ : ByteArray)] from rfl) (Reps.one (show Kd.M Kd.string _ _ _ (⟨#[60]⟩ : ByteArray) [.string (⟨#[60]⟩ : ByteArray)] from rfl) (Reps.one (show Kd.M Kd.string _ _ _ (⟨#[126]⟩ : ByteArray) [.string (⟨#[126]⟩ : ByteArray)] from rfl) (Reps.one (show Kd.M Kd.string _ _ _ (⟨#[97, 110, 100]⟩ : ByteArray) [.string (⟨#[97, 110, 100]⟩ : ByteArray)] from rfl) (Reps.one (show Kd.M Kd.string _ _ _ (⟨#[111, 114]⟩ : ByteArray) [.string (⟨#[111, 114]⟩ : ByteArray)] from rfl) (Reps.one (show Kd.M Kd.string _ _ _ (⟨#[120]⟩ : ByteArray) [.string (⟨#[120]⟩ : ByteArray)] from rfl) (Reps.none _ _)))))))))))); intro v192 w9 ho10 hb hg_ hnew_; clear hg_ hnew_; (first | rw [← Ny191.out] at ho10 | (simp only [Int.reduceToNat] at ho10; rw [← Ny191.out] at ho10)); have n0_ := Aside0.mk (Kd.R_lower ho10 (below_size (by repeat (first | (with_reducible first | exact HB.out | apply below_alloc | apply pw_below_drewN | apply below_drew1 | refine below_set ?_ (IsS121.ge HI190.out) | refine below_set ?_ GE185.out | refine below_set ?_ GE186.out) | exact HB.out)))); have n1_ := bkb_ BK185 hb; have n2_ := bkb_ BK186 hb; have n3_ := Aside0.mk (IsS121.below (by repeat (first | (with_reducible first | exact HI190.out | apply IsS121.alloc | apply IsS121.drewN | apply IsS121.drew | apply IsS121.set_1 | apply IsS121.set_2 | apply IsS121.far (hne := NB190_185.out) | apply IsS121.far (hne := NB190_186.out)) | exact HI190.out)) hb); have n4_ := Aside0.mk (below_step (by repeat (first | (with_reducible first | exact HB.out | apply below_alloc | apply pw_below_drewN | apply below_drew1 | refine below_set ?_ (IsS121.ge HI190.out) | refine below_set ?_ GE185.out | refine below_set ?_ GE186.out) | exact HB.out)) hb); clear BK185; clear BK186; clear HI190; clear HB; have HO193 := n0_; have BK185 := n1_; have BK186 := n2_; have HI190 := n3_; have HB := n4_; clear n0_ n1_ n2_ n3_ n4_; clear hb ho10; obtain ⟨Ao11, co11, eo11⟩ := Kd.R_slice HO193.out; subst eo11) | ((with_reducible refine gate_callee (f := 44) rfl ?_); refine gsL_ (some 12) Try.func44 #[.pointer (some ⟨g190, 0, none⟩), .slice Ao11 y191.length co11] ?_; (with_reducible refine (spec_l01Pick.calls g190 t187 t188 t189 _ _ y191 t194 t195 t196 w _ ?side1 ?side2 ?side3 ?side4 ?side5 A3.out).mono ?_); (case side1 => repeat (first | (with_reducible first | exact HI190.out | apply IsS121.alloc | apply IsS121.drewN | apply IsS121.drew | apply IsS121.set_1 | apply IsS121.set_2 | apply IsS121.far (hne := NB190_185.out) | apply IsS121.far (hne := NB190_186.out)) | exact HI190.out)); (case side2 => repeat (first | (with_reducible first | exact HB.out | apply below_alloc | apply pw_below_drewN | apply below_drew1 | refine below_set ?_ (IsS121.ge HI190.out) | refine below_set ?_ GE185.out | refine below_set ?_ GE186.out) | exact HB.out)); (case side3 => exact ck_ (Kd.R_reads' HO193.out).2.2); (case side4 => exact (Kd.R_reads' HO193.out).2.1); (case side5 => exact far_slice (IsS121.own_ne HI190.out HO193.out (by decide))); rintro e w12 ⟨rfl, hi, hb, hk⟩; refine ⟨_, rfl, ?_⟩; have n0_ := Aside0.mk (KeepBut.blk hk (g' := gb185) (o := .cells #[.int .i64 0, .int .i64 0, .string (⟨#[]⟩ : ByteArray)] 25 (0, 0)) (bkx_ BK185.out) NB185_190.out (by simp)); have n1_ := Aside0.mk (KeepBut.blk hk (g' := gb186) (o := .cells #[.int .i64 0, .int .i64 0, .string (⟨#[]⟩ : ByteArray)] 25 (0, 0)) (bkx_ BK186.out) NB186_190.out (by simp)); have n2_ := Aside0.mk (Kd.R_mono (Kd.R_keep (IsS121.apart (show IsS121 w _ g190 t187 t188 t189 from by repeat (first | (with_reducible first | exact HI190.out | apply IsS121.alloc | apply IsS121.drewN | apply IsS121.drew | apply IsS121.set_1 | apply IsS121.set_2 | apply IsS121.far (hne := NB190_185.out) | apply IsS121.far (hne := NB190_186.out)) | exact HI190.out)) (rk_ HO193.out) (by decide)) hk (fun _ h => h.2)) (fun _ h => h.1)); have n3_ := Aside0.mk (hb); have n4_ := Aside0.mk (hi); clear BK185; clear BK186; clear HO193; clear HB; clear HI190; have BK185 := n0_; have BK186 := n1_; have HO193 := n2_; have HB := n3_; have HI190 := n4_; clear n0_ n1_ n2_ n3_ n4_; (try clear hb)) | ((with_reducible refine gate_callee (f := 45) rfl ?_); refine gsL_ (some 14) Try.func45 #[.pointer (some ⟨g190, 0, none⟩)] ?_; (with_reducible refine (spec_l01Any.calls k g190 t187 t195 t196 t197 t198 t199 t200 t201 w _ ?side1 ?side2 A4.out).mono ?_); (case side1 => repeat (first | (with_reducible first | exact HI190.out | apply IsS121.alloc | apply IsS121.drewN | apply IsS121.drew | apply IsS121.set_1 | apply IsS121.set_2 | apply IsS121.far (hne := NB190_185.out) | apply IsS121.far (hne := NB190_186.out)) | exact HI190.out)); (case side2 => repeat (first | (with_reducible first | exact HB.out | apply below_alloc | apply pw_below_drewN | apply below_drew1 | refine below_set ?_ (IsS121.ge HI190.out) | refine below_set ?_ GE185.out | refine below_set ?_ GE186.out) | exact HB.out)); rintro e w13 ⟨rfl, hi, hb, hk⟩; refine ⟨_, rfl, ?_⟩; have n0_ := Aside0.mk (KeepBut.blk hk (g' := gb185) (o := .cells #[.int .i64 0, .int .i64 0, .string (⟨#[]⟩ : ByteArray)] 25 (0, 0)) (bkx_ BK185.out) NB185_190.out (by simp)); have n1_ := Aside0.mk (KeepBut.blk hk (g' := gb186) (o := .cells #[.int .i64 0, .int .i64 0, .string (⟨#[]⟩ : ByteArray)] 25 (0, 0)) (bkx_ BK186.out) NB186_190.out (by simp)); have n2_ := Aside0.mk (Kd.R_mono (Kd.R_keep (IsS121.apart (show IsS121 w _ g190 t187 t195 t196 from by repeat (first | (with_reducible first | exact HI190.out | apply IsS121.alloc | apply IsS121.drewN | apply IsS121.drew | apply IsS121.set_1 | apply IsS121.set_2 | apply IsS121.far (hne := NB190_185.out) | apply IsS121.far (hne := NB190_186.out)) | exact HI190.out)) (rk_ HO193.out) (by decide)) hk (fun _ h => h.2)) (fun _ h => h.1)); have n3_ := Aside0.mk (hb); have n4_ := Aside0.mk (hi); clear BK185; clear BK186; clear HO193; clear HB; clear HI190; have BK185 := n0_; have BK186 := n1_; have HO193 := n2_; have HB := n3_; have HI190 := n4_; clear n0_ n1_ n2_ n3_ n4_; (try clear hb)) | ((with_reducible refine gate_dst (N := 7) rfl ?_); refine bx_ 7 #[.int .i64 0, .int .i64 0, .string (⟨#[]⟩ : ByteArray)] 25 ?_; intro gb202 hg w14 hbox hb; have n0_ := Aside0.mk (Kd.R_below (rk_ HO193.out) hb); have n1_ := bkb_ BK185 hb; have n2_ := bkb_ BK186 hb; have n3_ := Aside0.mk (IsS121.below (by repeat (first | (with_reducible first | exact HI190.out | apply IsS121.alloc | apply IsS121.drewN | apply IsS121.drew | apply IsS121.set_1 | apply IsS121.set_2 | apply IsS121.far (hne := NB190_185.out) | apply IsS121.far (hne := NB190_186.out)) | exact HI190.out)) hb); have n4_ := Aside0.mk (below_step (by repeat (first | (with_reducible first | exact HB.out | apply below_alloc | apply pw_below_drewN | apply below_drew1 | refine below_set ?_ (IsS121.ge HI190.out) | refine below_set ?_ GE185.out | refine below_set ?_ GE186.out) | exact HB.out)) hb); have n5_ := Aside0.mk (hbox); have n6_ := Aside0.mk ((by rw [hg]; exact (below_size (by repeat (first | (with_reducible first | exact HB.out | apply below_alloc | apply pw_below_drewN | apply below_drew1 | refine below_set ?_ (IsS121.ge HI190.out) | refine below_set ?_ GE185.out | refine below_set ?_ GE186.out) | exact HB.out))) : w.heap.size ≤ gb202)); have n7_ := Aside0.mk ((by rw [hg]; exact (below_size (by repeat (first | (with_reducible first | exact HB.out | apply below_alloc | apply pw_below_drewN | apply below_drew1 | refine below_set ?_ (IsS121.ge HI190.out) | refine below_set ?_ GE185.out | refine below_set ?_ GE186.out) | exact HB.out))) : w.heap.size ≤ gb202)); have n8_ := nl_ hg BK185; have n9_ := ng_ hg BK185; have n10_ := nl_ hg BK186; have n11_ := ng_ hg BK186; have n12_ := Aside0.mk ((by rw [hg]; exact Nat.ne_of_lt (IsS121.lt (show IsS121 w _ g190 t187 t200 t201 from by repeat (first | (with_reducible first | exact HI190.out | apply IsS121.alloc | apply IsS121.drewN | apply IsS121.drew | apply IsS121.set_1 | apply IsS121.set_2 | apply IsS121.far (hne := NB190_185.out) | apply IsS121.far (hne := NB190_186.out)) | exact HI190.out))) : g190 ≠ gb202)); have n13_ := Aside0.mk ((by rw [hg]; exact Nat.ne_of_gt (IsS121.lt (show IsS121 w _ g190 t187 t200 t201 from by repeat (first | (with_reducible first | exact HI190.out | apply IsS121.alloc | apply IsS121.drewN | apply IsS121.drew | apply IsS121.set_1 | apply IsS121.set_2 | apply IsS121.far (hne := NB190_185.out) | apply IsS121.far (hne := NB190_186.out)) | exact HI190.out))) : gb202 ≠ g190)); clear HO193; clear BK185; clear BK186; clear HI190; clear HB; have HO193 := n0_; have BK185 := n1_; have BK186 := n2_; have HI190 := n3_; have HB := n4_; have BK202 := n5_; have GW202 := n6_; have GE202 := n7_; have NB185_202 := n8_; have NB202_185 := n9_; have NB186_202 := n10_; have NB202_186 := n11_; have NB190_202 := n12_; have NB202_190 := n13_; clear n0_ n1_ n2_ n3_ n4_ n5_ n6_ n7_ n8_ n9_ n10_ n11_ n12_ n13_; clear hb hbox hg; have hnb15 := NB202_185.out; have hnc15 := NB185_202.out; have hnb16 := NB202_186.out; have hnc16 := NB186_202.out; have hnb17 := NB202_190.out; have hnc17 := NB190_202.out; obtain ⟨hcz18_0, hcz18_1, hcz18_2, hfz18_0, hfz18_1, hfz18_2⟩ := b3_ BK202))
 have n0_ : Aside0 (Kd.R Kd.string 9 (((w14.setCell ⟨gb202, 0, none⟩ (.int .i64 t197)).setCell ⟨gb202, 1, none⟩ (.int .i64 t198)).setCell ⟨gb202, 2, none⟩ (.string t199)) w.heap.size (fun _ => True) (.slice Ao11 y191.length co11) y191) := ⟨by (with_reducible repeat (first | apply Kd.R_alloc | apply Kd.R_drewN | apply Kd.R_drew)); exact Kd.R_mono (Kd.R_far (p := ⟨gb202, 2, none⟩) (Kd.R_far (p := ⟨gb202, 1, none⟩) (Kd.R_far (p := ⟨gb202, 0, none⟩) (Kd.R_types HO193.out BK202.out (by decide)) (fun _ hk => hk.2) (.int .i64 t197)) (fun _ hk => hk.2) (.int .i64 t198)) (fun _ hk => hk.2) (.string t199)) (fun _ hk => trivial)⟩
 have n1_ : Aside0 ((((w14.setCell ⟨gb202, 0, none⟩ (.int .i64 t197)).setCell ⟨gb202, 1, none⟩ (.int .i64 t198)).setCell ⟨gb202, 2, none⟩ (.string t199)).heap[gb185]? = some (.cells #[.int .i64 0, .int .i64 0, .string (⟨#[]⟩ : ByteArray)] 25 (0, 0))) := ⟨(bf3_ NB185_202 (bkx_ BK185.out))⟩
 have n2_ : Aside0 ((((w14.setCell ⟨gb202, 0, none⟩ (.int .i64 t197)).setCell ⟨gb202, 1, none⟩ (.int .i64 t198)).setCell ⟨gb202, 2, none⟩ (.string t199)).heap[gb186]? = some (.cells #[.int .i64 0, .int .i64 0, .string (⟨#[]⟩ : ByteArray)] 25 (0, 0))) := ⟨(bf3_ NB186_202 (bkx_ BK186.out))⟩
 have n3_ : Aside0 ((((w14.setCell ⟨gb202, 0, none⟩ (.int .i64 t197)).setCell ⟨gb202, 1, none⟩ (.int .i64 t198)).setCell ⟨gb202, 2, none⟩ (.string t199)).heap[gb202]? = some (.cells #[.int .i64 t197, .int .i64 t198, .string t199] 25 (0, 0))) := ⟨(bp3_ (bkx_ BK202.out))⟩
 have n4_ : Aside0 (IsS121 w (((w14.setCell ⟨gb202, 0, none⟩ (.int .i64 t197)).setCell ⟨gb202, 1, none⟩ (.int .i64 t198)).setCell ⟨gb202, 2, none⟩ (.string t199)) g190 t187 t200 t201) := ⟨by repeat (first | (with_reducible first | exact HI190.out | apply IsS121.alloc | apply IsS121.drewN | apply IsS121.drew | apply IsS121.set_1 | apply IsS121.set_2 | apply IsS121.far (hne := NB190_185.out) | apply IsS121.far (hne := NB190_186.out) | apply IsS121.far (hne := NB190_202.out)) | exact HI190.out)⟩
 have n5_ : Aside0 (Below w.heap.size w (((w14.setCell ⟨gb202, 0, none⟩ (.int .i64 t197)).setCell ⟨gb202, 1, none⟩ (.int .i64 t198)).setCell ⟨gb202, 2, none⟩ (.string t199))) := ⟨by repeat (first | (with_reducible first | exact HB.out | apply below_alloc | apply pw_below_drewN | apply below_drew1 | refine below_set ?_ (IsS121.ge HI190.out) | refine below_set ?_ GE185.out | refine below_set ?_ GE186.out | refine below_set ?_ GE202.out) | exact HB.out)⟩
 (try clear HO193)
 (try clear BK185)
 (try clear BK186)
 (try clear BK202)
 (try clear HI190)
 (try clear HB)
 generalize (((w14.setCell ⟨gb202, 0, none⟩ (.int .i64 t197)).setCell ⟨gb202, 1, none⟩ (.int .i64 t198)).setCell ⟨gb202, 2, none⟩ (.string t199)) = w19 at n0_ n1_ n2_ n3_ n4_ n5_ ⊢
 have HO193 := n0_
 have BK185 := n1_
 have BK186 := n2_
 have BK202 := n3_
 have HI190 := n4_
 have HB := n5_
 clear n0_ n1_ n2_ n3_ n4_ n5_
 replace HO193 := Aside0.mk (Kd.R_drew HO193.out)
 replace BK185 := Aside0.mk (blk_drew BK185.out)
 replace BK186 := Aside0.mk (blk_drew BK186.out)
 replace BK202 := Aside0.mk (blk_drew BK202.out)
 replace HI190 := Aside0.mk (IsS121.drew HI190.out)
 replace HB := Aside0.mk (below_drew1 HB.out)
 refine start_ (n := 7) (S := fun w' => w'.cell? ⟨gb202, 0, none⟩ = some (.int .i64 t197) ∧ w'.cell? ⟨gb202, 1, none⟩ = some (.int .i64 t198) ∧ w'.cell? ⟨gb202, 2, none⟩ = some (.string t199)) (ds := []) (tf 0 7) (by kernel_rfl) rfl rfl ⟨bc_ BK202 0, bc_ BK202 1, bc_ BK202 2⟩ (fun hHeld => ?_)
 generalize w19.drew = w20 at HO193 BK185 BK186 BK202 HI190 HB hHeld ⊢
 refine pure_ (i := 0) (N := some 15) (v := ?_) (a' := ?_) (tf 1 6) rfl rfl (by kernel_rfl) (fun _ _ _ h => h) (Or.inl ⟨by rfl, ?_⟩) ?_ ?_
 rotate_left
 ·intro w'
  go_simp
  with_reducible rfl
 rotate_left
 ·simp only [Act.put, List.setIfInBounds_toArray, List.set_cons_zero, List.set_cons_succ, i64_w, i32_w]
  rfl
 refine pure_ (i := 2) (N := some 17) (v := ?_) (a' := ?_) #[true, false, true, false, false, false, false] rfl rfl (by kernel_rfl) (fun _ _ _ h => h) (Or.inl ⟨by rfl, ?_⟩) ?_ ?_
 rotate_left
 ·intro w'
  go_simp
  with_reducible rfl
 rotate_left
 ·simp only [Act.put, List.setIfInBounds_toArray, List.set_cons_zero, List.set_cons_succ, i64_w, i32_w]
  rfl
 refine take_ (i := 1) (N := some 16) (v := ?_) (a' := ?_) (tf 3 4) rfl rfl (by kernel_rfl) (fun _ _ _ h => h) (Or.inl ⟨by rfl, ?_⟩) hHeld ?_ ?_
 rotate_left
 ·rintro w' ⟨s0, s1, s2⟩
  go_simp
  with_reducible rfl
 rotate_left
 ·simp only [Act.put, List.setIfInBounds_toArray, List.set_cons_zero, List.set_cons_succ, i64_w, i32_w]
  rfl
 refine one_ (i := 3) (N := some 18) (tf 4 3) rfl rfl (by kernel_rfl) (by decide) (fun K hK => ?_)
 refine gs_ Try.func45 #[.pointer (some ⟨g190, 0, none⟩)] ?_
 with_reducible refine (spec_l01Any.calls k g190 t187 t200 t201 t203 t204 t205 t206 t207 w _ ?side1 ?side2 A5.out).mono ?_
 (case side1 => repeat (first | (with_reducible first | exact HI190.out | apply IsS121.alloc | apply IsS121.drewN | apply IsS121.drew | apply IsS121.set_1 | apply IsS121.set_2 | apply IsS121.far (hne := NB190_185.out) | apply IsS121.far (hne := NB190_186.out) | apply IsS121.far (hne := NB190_202.out)) | exact HI190.out))
 (case side2 => repeat (first | (with_reducible first | exact HB.out | apply below_alloc | apply pw_below_drewN | apply below_drew1 | refine below_set ?_ (IsS121.ge HI190.out) | refine below_set ?_ GE185.out | refine below_set ?_ GE186.out | refine below_set ?_ GE202.out) | exact HB.out))
 rintro e w21 ⟨rfl, hi, hb, hk⟩
 refine ⟨_, rfl, ?_⟩
 have n0_ := Aside0.mk (KeepBut.blk hk (g' := gb185) (o := .cells #[.int .i64 0, .int .i64 0, .string (⟨#[]⟩ : ByteArray)] 25 (0, 0)) (bkx_ BK185.out) NB185_190.out (by simp))
 have n1_ := Aside0.mk (KeepBut.blk hk (g' := gb186) (o := .cells #[.int .i64 0, .int .i64 0, .string (⟨#[]⟩ : ByteArray)] 25 (0, 0)) (bkx_ BK186.out) NB186_190.out (by simp))
 have n2_ := Aside0.mk (Kd.R_mono (Kd.R_keep (IsS121.apart (show IsS121 w _ g190 t187 t200 t201 from by repeat (first | (with_reducible first | exact HI190.out | apply IsS121.alloc | apply IsS121.drewN | apply IsS121.drew | apply IsS121.set_1 | apply IsS121.set_2 | apply IsS121.far (hne := NB190_185.out) | apply IsS121.far (hne := NB190_186.out) | apply IsS121.far (hne := NB190_202.out)) | exact HI190.out)) (rk_ HO193.out) (by decide)) hk (fun _ h => h.2)) (fun _ h => h.1))
 have n3_ := Aside0.mk (KeepBut.blk hk (g' := gb202) (o := .cells #[.int .i64 t197, .int .i64 t198, .string t199] 25 (0, 0)) (bkx_ BK202.out) NB202_190.out (by simp))
 have n4_ := Aside0.mk (hb)
 have n5_ := Aside0.mk (hi)
 clear BK185
 clear BK186
 clear HO193
 clear BK202
 clear HB
 clear HI190
 have BK185 := n0_
 have BK186 := n1_
 have HO193 := n2_
 have BK202 := n3_
 have HB := n4_
 have HI190 := n5_
 clear n0_ n1_ n2_ n3_ n4_ n5_
 (try clear hb)
 refine hK.out _ _ ⟨bc_ BK202 0, bc_ BK202 1, bc_ BK202 2⟩ (fun hHeld => ?_)
 clear hK K
 refine nm_ ?_
 refine pure_ (i := 4) (N := some 2) (v := ?_) (a' := ?_) (tf 5 2) rfl rfl (by kernel_rfl) (fun _ _ _ h => h) (Or.inl ⟨by rfl, ?_⟩) ?_ ?_
 rotate_left
 ·intro w'
  go_simp
  with_reducible rfl
 rotate_left
 ·simp only [Act.put, List.setIfInBounds_toArray, List.set_cons_zero, List.set_cons_succ, i64_w, i32_w]
  rfl
 refine one_ (i := 5) (N := none) (tf 6 1) rfl rfl (by kernel_rfl) (by decide) (fun K hK => ?_)
 have hs22 : w21.cell? ⟨gb185, 0, none⟩ = some (.int .i64 0) := bc_ BK185 0
 have hfs22 := blk_frozen BK185.out 0
 have hns22_1 := NB186_185.out
 have hns22_2 := NB202_185.out
 have hms22_1 := NB185_186.out
 have hms22_2 := NB185_202.out
 have hs23 : w21.cell? ⟨gb185, 1, none⟩ = some (.int .i64 0) := bc_ BK185 1
 have hfs23 := blk_frozen BK185.out 1
 have hns23_1 := NB186_185.out
 have hns23_2 := NB202_185.out
 have hms23_1 := NB185_186.out
 have hms23_2 := NB185_202.out
 have hs24 : w21.cell? ⟨gb185, 2, none⟩ = some (.string (⟨#[]⟩ : ByteArray)) := bc_ BK185 2
 have hfs24 := blk_frozen BK185.out 2
 have hns24_1 := NB186_185.out
 have hns24_2 := NB202_185.out
 have hms24_1 := NB185_186.out
 have hms24_2 := NB185_202.out
 refine skip_ (w1 := ?_) (by rfl) rfl ?_ ?_
 rotate_left
 ·go_simp
  rfl
 refine hK.out _ _ ⟨(cf3_ NB202_185 (hHeld.1)), (cf3_ NB202_185 (hHeld.2.1)), (cf3_ NB202_185 (hHeld.2.2))⟩ (fun hHeld => ?_)
 clear hK K
 refine one_ (i := 6) (N := none) (tf 7 0) rfl rfl (by kernel_rfl) (by decide) (fun K hK => ?_)
 have hs25 : w21.cell? ⟨gb186, 0, none⟩ = some (.int .i64 0) := bc_ BK186 0
 have hfs25 := blk_frozen BK186.out 0
 have hns25_0 := NB185_186.out
 have hns25_2 := NB202_186.out
 have hms25_0 := NB186_185.out
 have hms25_2 := NB186_202.out
 have hs26 : w21.cell? ⟨gb186, 1, none⟩ = some (.int .i64 0) := bc_ BK186 1
 have hfs26 := blk_frozen BK186.out 1
 have hns26_0 := NB185_186.out
 have hns26_2 := NB202_186.out
 have hms26_0 := NB186_185.out
 have hms26_2 := NB186_202.out
 have hs27 : w21.cell? ⟨gb186, 2, none⟩ = some (.string (⟨#[]⟩ : ByteArray)) := bc_ BK186 2
 have hfs27 := blk_frozen BK186.out 2
 have hns27_0 := NB185_186.out
 have hns27_2 := NB202_186.out
 have hms27_0 := NB186_185.out
 have hms27_2 := NB186_202.out
 refine skip_ (w1 := ?_) (by rfl) rfl ?_ ?_
 rotate_left
 ·go_simp
  rfl
 refine hK.out _ _ ⟨(cf3_ NB202_186 (hHeld.1)), (cf3_ NB202_186 (hHeld.2.1)), (cf3_ NB202_186 (hHeld.2.2))⟩ (fun hHeld => ?_)
 clear hK K
 refine done_ (by kernel_rfl) ?_
 try go_wp2
 refine bodyPost_ret (results_list (rs := [.tmp 2, .cell 3 25, .cell 4 25]) rfl (by simp) (.tmp (.cell gb185 25 #[.int .i64 t197, .int .i64 t198, .string t199] (0, 0) _ rfl (by (with_reducible repeat (first | refine blk_drewN ?_ _ | refine blk_drew ?_ | refine blk_alloc ?_ _)); refine blk_far ?_ NB185_186.out _; (with_reducible repeat (first | refine blk_drewN ?_ _ | refine blk_drew ?_ | refine blk_alloc ?_ _)); refine blk_far ?_ NB185_186.out _; (with_reducible repeat (first | refine blk_drewN ?_ _ | refine blk_drew ?_ | refine blk_alloc ?_ _)); refine blk_far ?_ NB185_186.out _; (with_reducible repeat (first | refine blk_drewN ?_ _ | refine blk_drew ?_ | refine blk_alloc ?_ _)); refine blk_put (cs := #[.int .i64 t197, .int .i64 t198, .string (⟨#[]⟩ : ByteArray)]) ?_ 2 _ rfl; (with_reducible repeat (first | refine blk_drewN ?_ _ | refine blk_drew ?_ | refine blk_alloc ?_ _)); refine blk_put (cs := #[.int .i64 t197, .int .i64 0, .string (⟨#[]⟩ : ByteArray)]) ?_ 1 _ rfl; (with_reducible repeat (first | refine blk_drewN ?_ _ | refine blk_drew ?_ | refine blk_alloc ?_ _)); refine blk_put (cs := #[.int .i64 0, .int .i64 0, .string (⟨#[]⟩ : ByteArray)]) ?_ 0 _ rfl; (with_reducible repeat (first | refine blk_drewN ?_ _ | refine blk_drew ?_ | refine blk_alloc ?_ _)); exact BK185.out) Try.underlying25 rfl (by kernel_rfl) (.cell gb186 25 #[.int .i64 t203, .int .i64 t204, .string t205] (0, 0) _ rfl (by (with_reducible repeat (first | refine blk_drewN ?_ _ | refine blk_drew ?_ | refine blk_alloc ?_ _)); refine blk_put (cs := #[.int .i64 t203, .int .i64 t204, .string (⟨#[]⟩ : ByteArray)]) ?_ 2 _ rfl; (with_reducible repeat (first | refine blk_drewN ?_ _ | refine blk_drew ?_ | refine blk_alloc ?_ _)); refine blk_put (cs := #[.int .i64 t203, .int .i64 0, .string (⟨#[]⟩ : ByteArray)]) ?_ 1 _ rfl; (with_reducible repeat (first | refine blk_drewN ?_ _ | refine blk_drew ?_ | refine blk_alloc ?_ _)); refine blk_put (cs := #[.int .i64 0, .int .i64 0, .string (⟨#[]⟩ : ByteArray)]) ?_ 0 _ rfl; (with_reducible repeat (first | refine blk_drewN ?_ _ | refine blk_drew ?_ | refine blk_alloc ?_ _)); refine blk_far ?_ NB186_185.out _; (with_reducible repeat (first | refine blk_drewN ?_ _ | refine blk_drew ?_ | refine blk_alloc ?_ _)); refine blk_far ?_ NB186_185.out _; (with_reducible repeat (first | refine blk_drewN ?_ _ | refine blk_drew ?_ | refine blk_alloc ?_ _)); refine blk_far ?_ NB186_185.out _; (with_reducible repeat (first | refine blk_drewN ?_ _ | refine blk_drew ?_ | refine blk_alloc ?_ _)); exact BK186.out) Try.underlying25 rfl (by kernel_rfl) .nil)))) rfl ?_
 exact ⟨by first | rfl | (simp [errW_none, errW_some] <;> rfl) | (simp [*, errW_none, errW_some] <;> rfl), by repeat (first | (with_reducible first | exact HB.out | apply below_alloc | apply pw_below_drewN | apply below_drew1 | refine below_set ?_ (IsS121.ge HI190.out) | refine below_set ?_ GE185.out | refine below_set ?_ GE186.out | refine below_set ?_ GE202.out) | exact HB.out)⟩

/-! ### impl_null: function 46 -/
def impl_null.f  : Option (Int × Int × ByteArray) := some (0, 0, (⟨#[]⟩ : ByteArray))
set_option maxHeartbeats 8000000 in
set_option maxRecDepth 100000 in
theorem impl_null.calls  (r1 : Int) (r2 : Int) (r3 : ByteArray) (w : World) (h : impl_null.f  = some (r1, r2, r3)) :
  Calls Try.prog 46 #[] w fun e w' => e = .returned (.agg #[.int .i64 r1, .int .i64 r2, .string r3]) ∧ Below w.heap.size w w' := by
 have hu25 := Try.underlying25
 have HB := Aside0.mk (Below.refl w.heap.size w)
 have H : (some (0, 0, (⟨#[]⟩ : ByteArray))) = some (r1, r2, r3) := h
 clear h
 simp only [Option.some.injEq, Prod.mk.injEq] at H
 obtain ⟨rfl, rfl, rfl⟩ := H
 go_enter Try.func46, Try.ntmps46
 go_wp2_with (first | ((with_reducible refine gate_dst (N := 0) rfl ?_); refine bx_ 0 #[.int .i64 0, .int .i64 0, .string (⟨#[]⟩ : ByteArray)] 25 ?_; intro gb208 hg w1 hbox hb; have BK208 := Aside0.mk (hbox); have GW208 := gw_ hg; have GE208 := gw_ hg; replace HB := bs_ hb; clear hb hbox hg; obtain ⟨hcz2_0, hcz2_1, hcz2_2, hfz2_0, hfz2_1, hfz2_2⟩ := b3_ BK208))
 refine bodyPost_ret (results_cell_row rfl _ _ gb208 25 #[.int .i64 0, .int .i64 0, .string (⟨#[]⟩ : ByteArray)] (0, 0) _ rfl (bp3_ (bkx_ BK208.out)) Try.underlying25 rfl (by kernel_rfl)) rfl ?_
 exact ⟨er_, bb_⟩

/-! ### impl_count: function 47 -/
def impl_count.j0 : Nat → Int → Int → Bool → Option (Int × Bool)
 | 0, _, _, _ => none
 | k + 1, x1, x2, x81 => if x81 = true then (some (0, false)) else (if x2 = 0 then (none) else (if (Int.tmod x1 x2) = 0 then (some (wrap64 (Int.tdiv x1 x2), true)) else (if ((decide (x1 < 0)) != (decide (x2 < 0))) = true then (some (wrap64 ((wrap64 (Int.tdiv x1 x2)) - 1), true)) else (some (wrap64 (Int.tdiv x1 x2), true)))))
def impl_count.f (k : Nat) (a0 : ByteArray) (a1 : Int) (a2 : Int) : Option (Int × Bool) := if a0.toList = ([43] : List UInt8) then (some (wrap64 (a1 + a2), ((decide ((wrap64 (a1 + a2)) > a1)) == (decide (a2 > 0))))) else (if a0.toList = ([45] : List UInt8) then (some (wrap64 (a1 - a2), ((decide ((wrap64 (a1 - a2)) < a1)) == (decide (a2 > 0))))) else (if a0.toList = ([42] : List UInt8) then (if a1 = 0 then (some (0, true)) else (if a2 = 0 then (some (0, true)) else (if (wrap64 (Int.tdiv (wrap64 (a1 * a2)) a2)) = a1 then (if a1 = (-1) then (if (a2 = (-9223372036854775808)) then (some (wrap64 (a1 * a2), false)) else (if a2 = (-1) then (some (wrap64 (a1 * a2), !(a1 == (-9223372036854775808)))) else (some (wrap64 (a1 * a2), !false)))) else (if a2 = (-1) then (some (wrap64 (a1 * a2), !(a1 == (-9223372036854775808)))) else (some (wrap64 (a1 * a2), !false)))) else (some (wrap64 (a1 * a2), false))))) else (if a2 = 0 then (impl_count.j0 k a1 a2 true) else (if a1 = (-9223372036854775808) then (impl_count.j0 k a1 a2 (a2 == (-1))) else (impl_count.j0 k a1 a2 false)))))
set_option maxHeartbeats 8000000 in
set_option maxRecDepth 100000 in
theorem impl_count.calls (k : Nat) (a0 : ByteArray) (a1 : Int) (a2 : Int) (r1 : Int) (r2 : Bool) (w : World) (h : impl_count.f k a0 a1 a2 = some (r1, r2)) :
  Calls Try.prog 47 #[.string a0, .int .i64 a1, .int .i64 a2] w fun e w' => e = .returned (.tuple #[.int .i64 r1, .bool r2]) ∧ Drawn0 w w' := by
 have H : (if a0.toList = ([43] : List UInt8) then (some (wrap64 (a1 + a2), ((decide ((wrap64 (a1 + a2)) > a1)) == (decide (a2 > 0))))) else (if a0.toList = ([45] : List UInt8) then (some (wrap64 (a1 - a2), ((decide ((wrap64 (a1 - a2)) < a1)) == (decide (a2 > 0))))) else (if a0.toList = ([42] : List UInt8) then (if a1 = 0 then (some (0, true)) else (if a2 = 0 then (some (0, true)) else (if (wrap64 (Int.tdiv (wrap64 (a1 * a2)) a2)) = a1 then (if a1 = (-1) then (if (a2 = (-9223372036854775808)) then (some (wrap64 (a1 * a2), false)) else (if a2 = (-1) then (some (wrap64 (a1 * a2), !(a1 == (-9223372036854775808)))) else (some (wrap64 (a1 * a2), !false)))) else (if a2 = (-1) then (some (wrap64 (a1 * a2), !(a1 == (-9223372036854775808)))) else (some (wrap64 (a1 * a2), !false)))) else (some (wrap64 (a1 * a2), false))))) else (if a2 = 0 then (impl_count.j0 k a1 a2 true) else (if a1 = (-9223372036854775808) then (impl_count.j0 k a1 a2 (a2 == (-1))) else (impl_count.j0 k a1 a2 false)))))) = some (r1, r2) := h
 clear h
 by_cases c4 : a0.toList = ([43] : List UInt8)
 ·rw [if_pos c4] at H
  have c4b0 : (a0.toList == ([43] : List UInt8)) = true := beq_iff_eq.mpr c4; have c4b1 : (a0.toList != ([43] : List UInt8)) = false := bne_eq_false_iff_eq.mpr c4; clear c4; simp only [Option.some.injEq, Prod.mk.injEq] at H; obtain ⟨rfl, rfl⟩ := H
  go_enter Try.func47, Try.ntmps47
  go_wp2
  go_ret2
  (exact ⟨by first | rfl | (simp; done) | (simp [*]; done), by repeat (first | exact Drawn0.refl _ | apply Drawn0.step)⟩)
 ·rw [if_neg c4] at H
  have c4b0 : (a0.toList == ([43] : List UInt8)) = false := beq_eq_false_iff_ne.mpr c4; have c4b1 : (a0.toList != ([43] : List UInt8)) = true := bne_iff_ne.mpr c4
  by_cases c5 : a0.toList = ([45] : List UInt8)
  ·rw [if_pos c5] at H
   have c5b0 : (a0.toList == ([45] : List UInt8)) = true := beq_iff_eq.mpr c5; have c5b1 : (a0.toList != ([45] : List UInt8)) = false := bne_eq_false_iff_eq.mpr c5; clear c5; simp only [Option.some.injEq, Prod.mk.injEq] at H; obtain ⟨rfl, rfl⟩ := H
   go_enter Try.func47, Try.ntmps47
   go_wp2
   go_ret2
   (exact ⟨by first | rfl | (simp; done) | (simp [*]; done), by repeat (first | exact Drawn0.refl _ | apply Drawn0.step)⟩)
  ·rw [if_neg c5] at H
   have c5b0 : (a0.toList == ([45] : List UInt8)) = false := beq_eq_false_iff_ne.mpr c5; have c5b1 : (a0.toList != ([45] : List UInt8)) = true := bne_iff_ne.mpr c5
   by_cases c6 : a0.toList = ([42] : List UInt8)
   ·rw [if_pos c6] at H
    have c6b0 : (a0.toList == ([42] : List UInt8)) = true := beq_iff_eq.mpr c6; have c6b1 : (a0.toList != ([42] : List UInt8)) = false := bne_eq_false_iff_eq.mpr c6; clear c6
    by_cases c7 : a1 = 0
    ·rw [if_pos c7] at H
     have c7b0 : (a1 == 0) = true := beq_iff_eq.mpr c7; have c7b1 : (a1 != 0) = false := bne_eq_false_iff_eq.mpr c7; clear c7; simp only [Option.some.injEq, Prod.mk.injEq] at H; obtain ⟨rfl, rfl⟩ := H
     go_enter Try.func47, Try.ntmps47
     go_wp2
     go_ret2
     (exact ⟨by first | rfl | (simp; done) | (simp [*]; done), by repeat (first | exact Drawn0.refl _ | apply Drawn0.step)⟩)
    ·rw [if_neg c7] at H
     have c7b0 : (a1 == 0) = false := beq_eq_false_iff_ne.mpr c7; have c7b1 : (a1 != 0) = true := bne_iff_ne.mpr c7
     by_cases c8 : a2 = 0
     ·rw [if_pos c8] at H
      have c8b0 : (a2 == 0) = true := beq_iff_eq.mpr c8; have c8b1 : (a2 != 0) = false := bne_eq_false_iff_eq.mpr c8; clear c8; simp only [Option.some.injEq, Prod.mk.injEq] at H; obtain ⟨rfl, rfl⟩ := H
      go_enter Try.func47, Try.ntmps47
      go_wp2
      go_ret2
      (exact ⟨by first | rfl | (simp; done) | (simp [*]; done), by repeat (first | exact Drawn0.refl _ | apply Drawn0.step)⟩)
     ·rw [if_neg c8] at H
      have c8b0 : (a2 == 0) = false := beq_eq_false_iff_ne.mpr c8; have c8b1 : (a2 != 0) = true := bne_iff_ne.mpr c8
      by_cases c9 : (wrap64 (Int.tdiv (wrap64 (a1 * a2)) a2)) = a1
      ·rw [if_pos c9] at H
       have c9b0 : ((wrap64 (Int.tdiv (wrap64 (a1 * a2)) a2)) == a1) = true := beq_iff_eq.mpr c9; have c9b1 : ((wrap64 (Int.tdiv (wrap64 (a1 * a2)) a2)) != a1) = false := bne_eq_false_iff_eq.mpr c9; clear c9
       by_cases c10 : a1 = (-1)
       ·rw [if_pos c10] at H
        have c10b0 : (a1 == (-1)) = true := beq_iff_eq.mpr c10; have c10b1 : (a1 != (-1)) = false := bne_eq_false_iff_eq.mpr c10; clear c10
        by_cases c11 : (a2 = (-9223372036854775808))
        ·rw [if_pos c11] at H
         have c11b0 : (a2 == (-9223372036854775808)) = true := beq_iff_eq.mpr c11; have c11b1 : (a2 != (-9223372036854775808)) = false := bne_eq_false_iff_eq.mpr c11; clear c11; simp only [Option.some.injEq, Prod.mk.injEq] at H; obtain ⟨rfl, rfl⟩ := H
         go_enter Try.func47, Try.ntmps47
         go_wp2
         go_ret2
         (exact ⟨by first | rfl | (simp; done) | (simp [*]; done), by repeat (first | exact Drawn0.refl _ | apply Drawn0.step)⟩)
        ·rw [if_neg c11] at H
         have c11b0 : (a2 == (-9223372036854775808)) = false := beq_eq_false_iff_ne.mpr c11; have c11b1 : (a2 != (-9223372036854775808)) = true := bne_iff_ne.mpr c11
         by_cases c12 : a2 = (-1)
         ·rw [if_pos c12] at H
          have c12b0 : (a2 == (-1)) = true := beq_iff_eq.mpr c12; have c12b1 : (a2 != (-1)) = false := bne_eq_false_iff_eq.mpr c12; clear c12; simp only [Option.some.injEq, Prod.mk.injEq] at H; obtain ⟨rfl, rfl⟩ := H
          go_enter Try.func47, Try.ntmps47
          go_wp2
          go_ret2
          (exact ⟨by first | rfl | (simp; done) | (simp [*]; done), by repeat (first | exact Drawn0.refl _ | apply Drawn0.step)⟩)
         ·rw [if_neg c12] at H
          have c12b0 : (a2 == (-1)) = false := beq_eq_false_iff_ne.mpr c12; have c12b1 : (a2 != (-1)) = true := bne_iff_ne.mpr c12; simp only [Option.some.injEq, Prod.mk.injEq] at H; obtain ⟨rfl, rfl⟩ := H
          go_enter Try.func47, Try.ntmps47
          go_wp2
          go_ret2
          (exact ⟨by first | rfl | (simp; done) | (simp [*]; done), by repeat (first | exact Drawn0.refl _ | apply Drawn0.step)⟩)
       ·rw [if_neg c10] at H
        have c10b0 : (a1 == (-1)) = false := beq_eq_false_iff_ne.mpr c10; have c10b1 : (a1 != (-1)) = true := bne_iff_ne.mpr c10
        by_cases c13 : a2 = (-1)
        ·rw [if_pos c13] at H
         have c13b0 : (a2 == (-1)) = true := beq_iff_eq.mpr c13; have c13b1 : (a2 != (-1)) = false := bne_eq_false_iff_eq.mpr c13; clear c13; simp only [Option.some.injEq, Prod.mk.injEq] at H; obtain ⟨rfl, rfl⟩ := H
         go_enter Try.func47, Try.ntmps47
         go_wp2
         go_ret2
         (exact ⟨by first | rfl | (simp; done) | (simp [*]; done), by repeat (first | exact Drawn0.refl _ | apply Drawn0.step)⟩)
        ·rw [if_neg c13] at H
         have c13b0 : (a2 == (-1)) = false := beq_eq_false_iff_ne.mpr c13; have c13b1 : (a2 != (-1)) = true := bne_iff_ne.mpr c13; simp only [Option.some.injEq, Prod.mk.injEq] at H; obtain ⟨rfl, rfl⟩ := H
         go_enter Try.func47, Try.ntmps47
         go_wp2
         go_ret2
         (exact ⟨by first | rfl | (simp; done) | (simp [*]; done), by repeat (first | exact Drawn0.refl _ | apply Drawn0.step)⟩)
      ·rw [if_neg c9] at H
       have c9b0 : ((wrap64 (Int.tdiv (wrap64 (a1 * a2)) a2)) == a1) = false := beq_eq_false_iff_ne.mpr c9; have c9b1 : ((wrap64 (Int.tdiv (wrap64 (a1 * a2)) a2)) != a1) = true := bne_iff_ne.mpr c9; simp only [Option.some.injEq, Prod.mk.injEq] at H; obtain ⟨rfl, rfl⟩ := H
       go_enter Try.func47, Try.ntmps47
       go_wp2
       go_ret2
       (exact ⟨by first | rfl | (simp; done) | (simp [*]; done), by repeat (first | exact Drawn0.refl _ | apply Drawn0.step)⟩)
   ·rw [if_neg c6] at H
    have c6b0 : (a0.toList == ([42] : List UInt8)) = false := beq_eq_false_iff_ne.mpr c6; have c6b1 : (a0.toList != ([42] : List UInt8)) = true := bne_iff_ne.mpr c6; have HC14 := Aside0.mk H; clear H
    go_enter Try.func47, Try.ntmps47
    go_upto_region 13 with (fail)
    go_cut [81] (fun v81 wc => ∃ (kq : Nat) (x81_13 : Bool), v81 = .bool x81_13 ∧ Aside0 (impl_count.j0 kq a1 a2 x81_13 = some (r1, r2)) ∧ Aside0 (kq ≤ k) ∧ Drawn0 w wc)
    case first =>
     have H := HC14.out; clear HC14
     by_cases c15 : a2 = 0
     ·rw [if_pos c15] at H
      have c15b0 : (a2 == 0) = true := beq_iff_eq.mpr c15; have c15b1 : (a2 != 0) = false := bne_eq_false_iff_eq.mpr c15; clear c15; (first | rw [c15b0] | (simp only [i64_w, i32_w]; rw [c15b0]) | skip); have H' := Aside0.mk H; clear H
      go_wp2
      go_meet
      case rel => exact ⟨_, (true), rs_, H', ⟨by first | omega | exact Nat.le_refl _⟩, by repeat (first | exact Drawn0.refl _ | apply Drawn0.step)⟩
     ·rw [if_neg c15] at H
      have c15b0 : (a2 == 0) = false := beq_eq_false_iff_ne.mpr c15; have c15b1 : (a2 != 0) = true := bne_iff_ne.mpr c15; (first | rw [c15b0] | (simp only [i64_w, i32_w]; rw [c15b0]) | skip)
      by_cases c16 : a1 = (-9223372036854775808)
      ·rw [if_pos c16] at H
       have c16b0 : (a1 == (-9223372036854775808)) = true := beq_iff_eq.mpr c16; have c16b1 : (a1 != (-9223372036854775808)) = false := bne_eq_false_iff_eq.mpr c16; clear c16; have H' := Aside0.mk H; clear H
       go_wp2
       go_meet
       case rel => exact ⟨_, ((a2 == (-1))), rs_, H', ⟨by first | omega | exact Nat.le_refl _⟩, by repeat (first | exact Drawn0.refl _ | apply Drawn0.step)⟩
      ·rw [if_neg c16] at H
       have c16b0 : (a1 == (-9223372036854775808)) = false := beq_eq_false_iff_ne.mpr c16; have c16b1 : (a1 != (-9223372036854775808)) = true := bne_iff_ne.mpr c16; have H' := Aside0.mk H; clear H
       go_wp2
       go_meet
       case rel => exact ⟨_, (false), rs_, H', ⟨by first | omega | exact Nat.le_refl _⟩, by repeat (first | exact Drawn0.refl _ | apply Drawn0.step)⟩
    case rest =>
     clear HC14; (try clear c1); (try clear p2); (try clear c4); (try clear c4b0); (try clear c4b1); (try clear c5); (try clear c5b0); (try clear c5b1); (try clear c6); (try clear c6b0); (try clear c6b1); (try clear p6); (try clear c7); (try clear c7b0); (try clear c7b1); (try clear c8); (try clear c8b0); (try clear c8b1); (try clear c9); (try clear c9b0); (try clear c9b1); (try clear c10); (try clear c10b0); (try clear c10b1); (try clear c11); (try clear c11b0); (try clear c11b1); (try clear c12); (try clear c12b0); (try clear c12b1); (try clear c13); (try clear c13b0); (try clear c13b1); (try clear c15); (try clear c15b0); (try clear c15b1); (try clear c16); (try clear c16b0); (try clear c16b1); obtain ⟨kq, x81_13, rfl, HA, HJ13, ⟨mc13, rfl⟩⟩ := hcut
     cases kq with
     | zero => exact absurd HA.out (by simp [impl_count.j0])
     | succ kj13 =>
      have H := HA.out; clear HA; simp only [impl_count.j0] at H
      by_cases c17 : x81_13 = true
      ·subst c17
       (have H1 : (some (0, false)) = some (r1, r2) := by rw [if_pos rfl] at H; exact H); clear H; have H := H1; clear H1; simp only [Option.some.injEq, Prod.mk.injEq] at H; obtain ⟨rfl, rfl⟩ := H
       go_wp2
       go_ret2
       (exact ⟨by first | rfl | (simp; done) | (simp [*]; done), by repeat (first | exact Drawn0.refl _ | apply Drawn0.step)⟩)
      ·replace c17 := Bool.eq_false_iff.mpr c17
       subst c17; (have H1 : (if a2 = 0 then (none) else (if (Int.tmod a1 a2) = 0 then (some (wrap64 (Int.tdiv a1 a2), true)) else (if ((decide (a1 < 0)) != (decide (a2 < 0))) = true then (some (wrap64 ((wrap64 (Int.tdiv a1 a2)) - 1), true)) else (some (wrap64 (Int.tdiv a1 a2), true))))) = some (r1, r2) := by rw [if_neg (show ¬ (false = true) by decide)] at H; exact H); clear H; have H := H1; clear H1
       by_cases c18 : a2 = 0
       ·rw [if_pos c18] at H
        exact absurd H (by simp)
       ·rw [if_neg c18] at H
        have c18b0 : (a2 == 0) = false := beq_eq_false_iff_ne.mpr c18; have c18b1 : (a2 != 0) = true := bne_iff_ne.mpr c18
        by_cases c19 : (Int.tmod a1 a2) = 0
        ·rw [if_pos c19] at H
         have c19b0 : ((Int.tmod a1 a2) == 0) = true := beq_iff_eq.mpr c19; have c19b1 : ((Int.tmod a1 a2) != 0) = false := bne_eq_false_iff_eq.mpr c19; clear c19; simp only [Option.some.injEq, Prod.mk.injEq] at H; obtain ⟨rfl, rfl⟩ := H
         go_wp2
         go_ret2
         (exact ⟨by first | rfl | (simp; done) | (simp [*]; done), by repeat (first | exact Drawn0.refl _ | apply Drawn0.step)⟩)
        ·rw [if_neg c19] at H
         have c19b0 : ((Int.tmod a1 a2) == 0) = false := beq_eq_false_iff_ne.mpr c19; have c19b1 : ((Int.tmod a1 a2) != 0) = true := bne_iff_ne.mpr c19
         by_cases c20 : ((decide (a1 < 0)) != (decide (a2 < 0))) = true
         ·rw [if_pos c20] at H
          have c20b0 : ((decide (a1 < 0)) != (decide (a2 < 0))) = true := c20; (try (have c20b1 : decide ((decide (a1 < 0)) = (decide (a2 < 0))) = false := by simpa using c20)); (try (have c20b2 : ((decide (a1 < 0)) == (decide (a2 < 0))) = false := by simpa using c20)); (try (have c20b3 : ¬ ((decide (a1 < 0)) = (decide (a2 < 0))) := by simpa using c20)); clear c20; simp only [Option.some.injEq, Prod.mk.injEq] at H; obtain ⟨rfl, rfl⟩ := H
          go_wp2
          go_ret2
          (exact ⟨by first | rfl | (simp; done) | (simp [*]; done), by repeat (first | exact Drawn0.refl _ | apply Drawn0.step)⟩)
         ·rw [if_neg c20] at H
          (have c20b0 : ((decide (a1 < 0)) != (decide (a2 < 0))) = false := by simpa using c20); (try (have c20b1 : decide ((decide (a1 < 0)) = (decide (a2 < 0))) = true := by simpa using c20)); (try (have c20b2 : ((decide (a1 < 0)) == (decide (a2 < 0))) = true := by simpa using c20)); clear c20; simp only [Option.some.injEq, Prod.mk.injEq] at H; obtain ⟨rfl, rfl⟩ := H
          go_wp2
          go_ret2
          (exact ⟨by first | rfl | (simp; done) | (simp [*]; done), by repeat (first | exact Drawn0.refl _ | apply Drawn0.step)⟩)

/-! ### impl_number: function 48 -/
def impl_number.f (a0 : Int) : Option (Int × Int × ByteArray) := some (1, a0, (⟨#[]⟩ : ByteArray))
set_option maxHeartbeats 8000000 in
set_option maxRecDepth 100000 in
theorem impl_number.calls (a0 : Int) (r1 : Int) (r2 : Int) (r3 : ByteArray) (w : World) (h : impl_number.f a0 = some (r1, r2, r3)) :
  Calls Try.prog 48 #[.int .i64 a0] w fun e w' => e = .returned (.agg #[.int .i64 r1, .int .i64 r2, .string r3]) ∧ Below w.heap.size w w' := by
 have hu25 := Try.underlying25
 have HB := Aside0.mk (Below.refl w.heap.size w)
 have H : (some (1, a0, (⟨#[]⟩ : ByteArray))) = some (r1, r2, r3) := h
 clear h
 simp only [Option.some.injEq, Prod.mk.injEq] at H
 obtain ⟨rfl, rfl, rfl⟩ := H
 go_enter Try.func48, Try.ntmps48
 go_wp2_with (first | ((with_reducible refine gate_dst (N := 2) rfl ?_); refine bx_ 2 #[.int .i64 0, .int .i64 0, .string (⟨#[]⟩ : ByteArray)] 25 ?_; intro gb209 hg w2 hbox hb; have BK209 := Aside0.mk (hbox); have GW209 := gw_ hg; have GE209 := gw_ hg; replace HB := bs_ hb; clear hb hbox hg; obtain ⟨hcz3_0, hcz3_1, hcz3_2, hfz3_0, hfz3_1, hfz3_2⟩ := b3_ BK209))
 refine bodyPost_ret (results_cell_row rfl _ _ gb209 25 #[.int .i64 1, .int .i64 a0, .string (⟨#[]⟩ : ByteArray)] (0, 0) _ rfl (bp3_ (bkx_ BK209.out)) Try.underlying25 rfl (by kernel_rfl)) rfl ?_
 exact ⟨er_, bb_⟩

/-! ### cmp_Or_int: function 97 -/
def cmp_Or_int.l0 : Nat → Int → List Int → Int → Int → Option (Int)
 | 0, _, _, _, _ => none
 | k + 1, x3, x6, x7, x8 => if x8 < x7 then (if 0 ≤ x8 then (if x8 < (x6.length : Int) then (if (rd x6 x8) = x3 then (cmp_Or_int.l0 k x3 x6 x7 (wrap64 (x8 + 1))) else (some (rd x6 x8))) else (none)) else (none)) else (some x3)
def cmp_Or_int.f (k : Nat) (l0 : List Int) : Option (Int) := cmp_Or_int.l0 k 0 l0 (l0.length : Int) 0
set_option maxHeartbeats 8000000 in
set_option maxRecDepth 100000 in
theorem cmp_Or_int.calls (k : Nat) (A0 : Option Addr) (c0 : Nat) (l0 : List Int) (r : Int) (w : World) (hr0 : Kd.C (Kd.int .i64) w A0 l0.length l0) (hc0 : l0.length ≤ c0) (h : cmp_Or_int.f k l0 = some r) :
  Calls Try.prog 97 #[.slice A0 l0.length c0] w fun e w' => e = .returned (.int .i64 r) ∧ Drawn0 w w' := by
 have HR0 := Aside0.mk hr0
 have HC0 := Aside0.mk hc0
 clear hr0 hc0
 have H : (cmp_Or_int.l0 k 0 l0 (l0.length : Int) 0) = some r := h
 clear h
 have H' := Aside0.mk H
 clear H
 go_enter Try.func97, Try.ntmps97
 go_wp2
 go_loopg [8] k (fun kq v8 w' => ∃ (x8_1 : Int), v8 = .int .i64 x8_1 ∧ Aside0 (cmp_Or_int.l0 kq 0 l0 (l0.length : Int) x8_1 = some r) ∧ Aside0 (kq ≤ k) ∧ Drawn0 w w')
 case atStart => exact ⟨(0), rs_, H', ⟨Nat.le_refl _⟩, by repeat (first | exact Drawn0.refl _ | apply Drawn0.step)⟩
 case round =>
  clear H'; obtain ⟨x8_1, rfl, HA, HK1, ⟨m1, rfl⟩⟩ := hrel
  cases gk with
  | zero => exact absurd HA.out (by simp [cmp_Or_int.l0])
  | succ k1 =>
   have H := HA.out; clear HA; simp only [cmp_Or_int.l0] at H
   by_cases c2 : x8_1 < (l0.length : Int)
   ·rw [if_pos c2] at H
    have c2b0 : decide (x8_1 < (l0.length : Int)) = true := decide_eq_true c2; clear c2
    by_cases c3 : 0 ≤ x8_1
    ·rw [if_pos c3] at H
     have c3b0 : decide (0 ≤ x8_1) = true := decide_eq_true c3; clear c3
     by_cases c4 : x8_1 < (l0.length : Int)
     ·rw [if_pos c4] at H
      have c4b0 : decide (x8_1 < (l0.length : Int)) = true := decide_eq_true c4; clear c4
      by_cases c5 : (rd l0 x8_1) = 0
      ·rw [if_pos c5] at H
       have c5b0 : ((rd l0 x8_1) == 0) = true := beq_iff_eq.mpr c5; have c5b1 : ((rd l0 x8_1) != 0) = false := bne_eq_false_iff_eq.mpr c5; clear c5; have H' := Aside0.mk H; clear H; (have p210 : 0 ≤ (x8_1 : Int) := of_decide_eq_true (by first | (with_reducible assumption) | assumption)); (have q210 : x8_1 < (l0.length : Int) := of_decide_eq_true (by first | (with_reducible assumption) | assumption)); obtain ⟨ad210, e210, hx210_0⟩ := Kd.at_int HR0.out x8_1 p210 q210; cases e210; replace p210 := eq_true p210; replace q210 := eq_true q210
       go_wp2
       go_roundg k1
       case measure => have := HK1.out; omega
       case rel => exact ⟨(wrap64 (x8_1 + 1)), rs_, H', ⟨by have := HK1.out; omega⟩, by repeat (first | exact Drawn0.refl _ | apply Drawn0.step)⟩
      ·rw [if_neg c5] at H
       have c5b0 : ((rd l0 x8_1) == 0) = false := beq_eq_false_iff_ne.mpr c5; have c5b1 : ((rd l0 x8_1) != 0) = true := bne_iff_ne.mpr c5; obtain rfl := Option.some.inj H; (have p210 : 0 ≤ (x8_1 : Int) := of_decide_eq_true (by first | (with_reducible assumption) | assumption)); (have q210 : x8_1 < (l0.length : Int) := of_decide_eq_true (by first | (with_reducible assumption) | assumption)); obtain ⟨ad210, e210, hx210_0⟩ := Kd.at_int HR0.out x8_1 p210 q210; cases e210; replace p210 := eq_true p210; replace q210 := eq_true q210
       go_wp2
       go_ret
       (exact ⟨by first | rfl | (simp; done) | (simp [*]; done), by repeat (first | exact Drawn0.refl _ | apply Drawn0.step)⟩)
     ·rw [if_neg c4] at H
      exact absurd H (by simp)
    ·rw [if_neg c3] at H
     exact absurd H (by simp)
   ·rw [if_neg c2] at H
    have c2b0 : decide (x8_1 < (l0.length : Int)) = false := decide_eq_false c2; clear c2; obtain rfl := Option.some.inj H
    go_wp2
    go_ret
    (exact ⟨by first | rfl | (simp; done) | (simp [*]; done), by repeat (first | exact Drawn0.refl _ | apply Drawn0.step)⟩)

/-! ### cmp_isNaN_int: function 133 -/
def cmp_isNaN_int.f (a0 : Int) : Option (Bool) := some (a0 != a0)
set_option maxHeartbeats 8000000 in
set_option maxRecDepth 100000 in
theorem cmp_isNaN_int.calls (a0 : Int) (r : Bool) (w : World) (h : cmp_isNaN_int.f a0 = some r) :
  Calls Try.prog 133 #[.int .i64 a0] w fun e w' => e = .returned (.bool r) ∧ Drawn0 w w' := by
 have H : (some (a0 != a0)) = some r := h
 clear h
 obtain rfl := Option.some.inj H
 go_enter Try.func133, Try.ntmps133
 go_wp2
 go_ret
 exact ⟨by first | rfl | (simp; done) | (simp [*]; done), by repeat (first | exact Drawn0.refl _ | apply Drawn0.step)⟩

/-! ### cmp_Compare_int: function 98 -/
def cmp_Compare_int.f (a0 : Int) (a1 : Int) : Option (Int) := (cmp_isNaN_int.f a0).bind fun t211 => ((cmp_isNaN_int.f a1).bind fun t212 => (if t211 = true then (if t212 = true then (some 0) else (some (-1))) else (if t212 = true then (some 1) else (if a0 < a1 then (some (-1)) else (if a0 > a1 then (some 1) else (some 0))))))
set_option maxHeartbeats 8000000 in
set_option maxRecDepth 100000 in
theorem cmp_Compare_int.calls (a0 : Int) (a1 : Int) (r : Int) (w : World) (h : cmp_Compare_int.f a0 a1 = some r) :
  Calls Try.prog 98 #[.int .i64 a0, .int .i64 a1] w fun e w' => e = .returned (.int .i64 r) ∧ Drawn0 w w' := by
 have H : ((cmp_isNaN_int.f a0).bind fun t211 => ((cmp_isNaN_int.f a1).bind fun t212 => (if t211 = true then (if t212 = true then (some 0) else (some (-1))) else (if t212 = true then (some 1) else (if a0 < a1 then (some (-1)) else (if a0 > a1 then (some 1) else (some 0))))))) = some r := h
 clear h
 replace H := Option.bind_eq_some_iff.mp H
 obtain ⟨t211, A30, H⟩ := H
 replace H : ((cmp_isNaN_int.f a1).bind fun t212 => (if t211 = true then (if t212 = true then (some 0) else (some (-1))) else (if t212 = true then (some 1) else (if a0 < a1 then (some (-1)) else (if a0 > a1 then (some 1) else (some 0)))))) = some r := H
 have A3 := Aside0.mk A30
 clear A30
 replace H := Option.bind_eq_some_iff.mp H
 obtain ⟨t212, A40, H⟩ := H
 replace H : (if t211 = true then (if t212 = true then (some 0) else (some (-1))) else (if t212 = true then (some 1) else (if a0 < a1 then (some (-1)) else (if a0 > a1 then (some 1) else (some 0))))) = some r := H
 have A4 := Aside0.mk A40
 clear A40
 by_cases c5 : t211 = true
 ·subst c5
  (have H1 : (if t212 = true then (some 0) else (some (-1))) = some r := by rw [if_pos rfl] at H; exact H); clear H; have H := H1; clear H1
  by_cases c6 : t212 = true
  ·subst c6
   (have H1 : (some 0) = some r := by rw [if_pos rfl] at H; exact H); clear H; have H := H1; clear H1; obtain rfl := Option.some.inj H
   go_enter Try.func98, Try.ntmps98
   go_wp2_with (first | ((with_reducible refine gate_callee (f := 133) rfl ?_); refine gsL_ (some 8) Try.func133 #[.int .i64 a0] ?_; (with_reducible refine (cmp_isNaN_int.calls a0 true _ A3.out).mono ?_); rintro e w' ⟨rfl, ⟨nd, rfl⟩⟩; refine ⟨_, rfl, ?_⟩) | ((with_reducible refine gate_callee (f := 133) rfl ?_); refine gsL_ (some 10) Try.func133 #[.int .i64 a1] ?_; (with_reducible refine (cmp_isNaN_int.calls a1 true _ A4.out).mono ?_); rintro e w' ⟨rfl, ⟨nd, rfl⟩⟩; refine ⟨_, rfl, ?_⟩))
   go_ret
   (exact ⟨by first | rfl | (simp; done) | (simp [*]; done), by repeat (first | exact Drawn0.refl _ | apply Drawn0.step)⟩)
  ·replace c6 := Bool.eq_false_iff.mpr c6
   subst c6; (have H1 : (some (-1)) = some r := by rw [if_neg (show ¬ (false = true) by decide)] at H; exact H); clear H; have H := H1; clear H1; obtain rfl := Option.some.inj H
   go_enter Try.func98, Try.ntmps98
   go_wp2_with (first | ((with_reducible refine gate_callee (f := 133) rfl ?_); refine gsL_ (some 8) Try.func133 #[.int .i64 a0] ?_; (with_reducible refine (cmp_isNaN_int.calls a0 true _ A3.out).mono ?_); rintro e w' ⟨rfl, ⟨nd, rfl⟩⟩; refine ⟨_, rfl, ?_⟩) | ((with_reducible refine gate_callee (f := 133) rfl ?_); refine gsL_ (some 10) Try.func133 #[.int .i64 a1] ?_; (with_reducible refine (cmp_isNaN_int.calls a1 false _ A4.out).mono ?_); rintro e w' ⟨rfl, ⟨nd, rfl⟩⟩; refine ⟨_, rfl, ?_⟩))
   go_ret
   (exact ⟨by first | rfl | (simp; done) | (simp [*]; done), by repeat (first | exact Drawn0.refl _ | apply Drawn0.step)⟩)
 ·replace c5 := Bool.eq_false_iff.mpr c5
  subst c5; (have H1 : (if t212 = true then (some 1) else (if a0 < a1 then (some (-1)) else (if a0 > a1 then (some 1) else (some 0)))) = some r := by rw [if_neg (show ¬ (false = true) by decide)] at H; exact H); clear H; have H := H1; clear H1
  by_cases c7 : t212 = true
  ·subst c7
   (have H1 : (some 1) = some r := by rw [if_pos rfl] at H; exact H); clear H; have H := H1; clear H1; obtain rfl := Option.some.inj H
   go_enter Try.func98, Try.ntmps98
   go_wp2_with (first | ((with_reducible refine gate_callee (f := 133) rfl ?_); refine gsL_ (some 8) Try.func133 #[.int .i64 a0] ?_; (with_reducible refine (cmp_isNaN_int.calls a0 false _ A3.out).mono ?_); rintro e w' ⟨rfl, ⟨nd, rfl⟩⟩; refine ⟨_, rfl, ?_⟩) | ((with_reducible refine gate_callee (f := 133) rfl ?_); refine gsL_ (some 10) Try.func133 #[.int .i64 a1] ?_; (with_reducible refine (cmp_isNaN_int.calls a1 true _ A4.out).mono ?_); rintro e w' ⟨rfl, ⟨nd, rfl⟩⟩; refine ⟨_, rfl, ?_⟩))
   go_ret
   (exact ⟨by first | rfl | (simp; done) | (simp [*]; done), by repeat (first | exact Drawn0.refl _ | apply Drawn0.step)⟩)
  ·replace c7 := Bool.eq_false_iff.mpr c7
   subst c7; (have H1 : (if a0 < a1 then (some (-1)) else (if a0 > a1 then (some 1) else (some 0))) = some r := by rw [if_neg (show ¬ (false = true) by decide)] at H; exact H); clear H; have H := H1; clear H1
   by_cases c8 : a0 < a1
   ·rw [if_pos c8] at H
    have c8b0 : decide (a0 < a1) = true := decide_eq_true c8; clear c8; obtain rfl := Option.some.inj H
    go_enter Try.func98, Try.ntmps98
    go_wp2_with (first | ((with_reducible refine gate_callee (f := 133) rfl ?_); refine gsL_ (some 8) Try.func133 #[.int .i64 a0] ?_; (with_reducible refine (cmp_isNaN_int.calls a0 false _ A3.out).mono ?_); rintro e w' ⟨rfl, ⟨nd, rfl⟩⟩; refine ⟨_, rfl, ?_⟩) | ((with_reducible refine gate_callee (f := 133) rfl ?_); refine gsL_ (some 10) Try.func133 #[.int .i64 a1] ?_; (with_reducible refine (cmp_isNaN_int.calls a1 false _ A4.out).mono ?_); rintro e w' ⟨rfl, ⟨nd, rfl⟩⟩; refine ⟨_, rfl, ?_⟩))
    go_ret
    (exact ⟨by first | rfl | (simp; done) | (simp [*]; done), by repeat (first | exact Drawn0.refl _ | apply Drawn0.step)⟩)
   ·rw [if_neg c8] at H
    have c8b0 : decide (a0 < a1) = false := decide_eq_false c8; clear c8
    by_cases c9 : a0 > a1
    ·rw [if_pos c9] at H
     have c9b0 : decide (a1 < a0) = true := decide_eq_true c9; clear c9; obtain rfl := Option.some.inj H
     go_enter Try.func98, Try.ntmps98
     go_wp2_with (first | ((with_reducible refine gate_callee (f := 133) rfl ?_); refine gsL_ (some 8) Try.func133 #[.int .i64 a0] ?_; (with_reducible refine (cmp_isNaN_int.calls a0 false _ A3.out).mono ?_); rintro e w' ⟨rfl, ⟨nd, rfl⟩⟩; refine ⟨_, rfl, ?_⟩) | ((with_reducible refine gate_callee (f := 133) rfl ?_); refine gsL_ (some 10) Try.func133 #[.int .i64 a1] ?_; (with_reducible refine (cmp_isNaN_int.calls a1 false _ A4.out).mono ?_); rintro e w' ⟨rfl, ⟨nd, rfl⟩⟩; refine ⟨_, rfl, ?_⟩))
     go_ret
     (exact ⟨by first | rfl | (simp; done) | (simp [*]; done), by repeat (first | exact Drawn0.refl _ | apply Drawn0.step)⟩)
    ·rw [if_neg c9] at H
     have c9b0 : decide (a1 < a0) = false := decide_eq_false c9; clear c9; obtain rfl := Option.some.inj H
     go_enter Try.func98, Try.ntmps98
     go_wp2_with (first | ((with_reducible refine gate_callee (f := 133) rfl ?_); refine gsL_ (some 8) Try.func133 #[.int .i64 a0] ?_; (with_reducible refine (cmp_isNaN_int.calls a0 false _ A3.out).mono ?_); rintro e w' ⟨rfl, ⟨nd, rfl⟩⟩; refine ⟨_, rfl, ?_⟩) | ((with_reducible refine gate_callee (f := 133) rfl ?_); refine gsL_ (some 10) Try.func133 #[.int .i64 a1] ?_; (with_reducible refine (cmp_isNaN_int.calls a1 false _ A4.out).mono ?_); rintro e w' ⟨rfl, ⟨nd, rfl⟩⟩; refine ⟨_, rfl, ?_⟩))
     go_ret
     (exact ⟨by first | rfl | (simp; done) | (simp [*]; done), by repeat (first | exact Drawn0.refl _ | apply Drawn0.step)⟩)

-- NOT PRINTED: function 153 (bytealg_abigen_runtime_cmpstring)

/-! ### bytealg_CompareString: function 134 -/
-- by hand
def bytealg_CompareString.f (a0 : ByteArray) (a1 : ByteArray) : Option Int := some (Go.Lib.compareBytes a0.data.toList a1.data.toList)
set_option maxRecDepth 100000 in
theorem bytealg_CompareString.calls (a0 : ByteArray) (a1 : ByteArray) (r : Int) (w : World) (h : bytealg_CompareString.f a0 a1 = some r) :
    Calls Try.prog 134 #[.string a0, .string a1] w fun e w' => e = .returned (.int .i64 r) ∧ Drawn0 w w' := by
  obtain rfl := Option.some.inj h
  go_enter Try.func134, Try.ntmps134
  go_wp2
  rw [run_callFunc_extern Try.func153 (by kernel_rfl) (by kernel_rfl) (by kernel_rfl) (e := Extern.BytealgCompare.compare) (by kernel_rfl), Go.Lib.run_compareString]
  simp only [Result.andThen]
  rw [Oper.upon_value]
  go_wp2
  go_ret
  exact ⟨rfl, Drawn0.refl _⟩


/-! ### strings_Compare: function 99 -/
def strings_Compare.f (a0 : ByteArray) (a1 : ByteArray) : Option (Int) := (bytealg_CompareString.f a0 a1).bind fun t213 => (some t213)
set_option maxHeartbeats 8000000 in
set_option maxRecDepth 100000 in
theorem strings_Compare.calls (a0 : ByteArray) (a1 : ByteArray) (r : Int) (w : World) (h : strings_Compare.f a0 a1 = some r) :
  Calls Try.prog 99 #[.string a0, .string a1] w fun e w' => e = .returned (.int .i64 r) ∧ Drawn0 w w' := by
 have H : ((bytealg_CompareString.f a0 a1).bind fun t213 => (some t213)) = some r := h
 clear h
 replace H := Option.bind_eq_some_iff.mp H
 obtain ⟨t213, A30, H⟩ := H
 replace H : (some t213) = some r := H
 have A3 := Aside0.mk A30
 clear A30
 obtain rfl := Option.some.inj H
 go_enter Try.func99, Try.ntmps99
 go_wp2_with (first | ((with_reducible refine gate_callee (f := 134) rfl ?_); refine gsL_ (some 7) Try.func134 #[.string a0, .string a1] ?_; (with_reducible refine (bytealg_CompareString.calls a0 a1 t213 _ A3.out).mono ?_); rintro e w' ⟨rfl, ⟨nd, rfl⟩⟩; refine ⟨_, rfl, ?_⟩))
 go_ret
 exact ⟨by first | rfl | (simp; done) | (simp [*]; done), by repeat (first | exact Drawn0.refl _ | apply Drawn0.step)⟩

end Go.Proofs.Ythgdmdabdlgliaa.PFnReckon
