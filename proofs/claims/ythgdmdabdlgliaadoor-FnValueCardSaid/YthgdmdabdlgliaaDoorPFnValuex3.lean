-- WRITTEN BY xprint.py, a program of this session over the kit's printer: by nobody's hand
-- PRESSED
import Derived.Test.YthgdmdabdlgliaaDoorPress
import Derived.Test.YthgdmdabdlgliaaDoorPFnValuex0
import Derived.Test.YthgdmdabdlgliaaDoorPFnValuex2
namespace Go.Proofs.YthgdmdabdlgliaaDoor.PFnValue
open Go.RowKit Go.Proofs.YthgdmdabdlgliaaDoorW.PrintWords Go.Proofs.YthgdmdabdlgliaaDoorW.PrintLast Go.Proofs.YthgdmdabdlgliaaDoorW.PrintMore
set_option linter.unusedVariables false
set_option linter.unusedSimpArgs false

/-! ### spec_DrawCompareValue: function 13 -/
def spec_DrawCompareValue.f (k : Nat) (l0 : List Int) : Option (Int × Int × ByteArray × Int × Int × ByteArray) := (spec_l01New.f k l0).bind fun bt187 => ((spec_l01Any.f k bt187.1 bt187.2.1 bt187.2.2).bind fun bt191 => ((spec_l01Once.f bt187.1 bt191.2.2.2.1 bt191.2.2.2.2 4).bind fun bt197 => (if bt197.1 = true then (some (bt191.1, bt191.2.1, bt191.2.2.1, bt191.1, bt191.2.1, bt191.2.2.1)) else ((spec_l01Any.f k bt187.1 bt197.2.1 bt197.2.2).bind fun bt200 => (some (bt191.1, bt191.2.1, bt191.2.2.1, bt200.1, bt200.2.1, bt200.2.2.1))))))
set_option maxHeartbeats 8000000 in
set_option maxRecDepth 100000 in
theorem spec_DrawCompareValue.calls (k : Nat) (A0 : Option Addr) (c0 : Nat) (l0 : List Int) (r1 : Int) (r2 : Int) (r3 : ByteArray) (r4 : Int) (r5 : Int) (r6 : ByteArray) (w : World) (hr0 : Kd.C (Kd.int .u8) w A0 l0.length l0) (hc0 : l0.length ≤ c0) (h : spec_DrawCompareValue.f k l0 = some (r1, r2, r3, r4, r5, r6)) :
  Calls Tryd.prog 13 #[.slice A0 l0.length c0] w fun e w' => e = .returned (.tuple #[.agg #[.int .i64 r1, .int .i64 r2, .string r3], .agg #[.int .i64 r4, .int .i64 r5, .string r6]]) ∧ Below w.heap.size w w' := by
 have hu29 := Tryd.underlying29
 have HR0 := Aside0.mk hr0
 have HC0 := Aside0.mk hc0
 clear hr0 hc0
 have HB := Aside0.mk (Below.refl w.heap.size w)
 have H : ((spec_l01New.f k l0).bind fun bt187 => ((spec_l01Any.f k bt187.1 bt187.2.1 bt187.2.2).bind fun bt191 => ((spec_l01Once.f bt187.1 bt191.2.2.2.1 bt191.2.2.2.2 4).bind fun bt197 => (if bt197.1 = true then (some (bt191.1, bt191.2.1, bt191.2.2.1, bt191.1, bt191.2.1, bt191.2.2.1)) else ((spec_l01Any.f k bt187.1 bt197.2.1 bt197.2.2).bind fun bt200 => (some (bt191.1, bt191.2.1, bt191.2.2.1, bt200.1, bt200.2.1, bt200.2.2.1))))))) = some (r1, r2, r3, r4, r5, r6) := h
 clear h
 replace H := Option.bind_eq_some_iff.mp H
 obtain ⟨⟨t187, t188, t189⟩, A20, H⟩ := H
 replace H : ((spec_l01Any.f k t187 t188 t189).bind fun bt191 => ((spec_l01Once.f t187 bt191.2.2.2.1 bt191.2.2.2.2 4).bind fun bt197 => (if bt197.1 = true then (some (bt191.1, bt191.2.1, bt191.2.2.1, bt191.1, bt191.2.1, bt191.2.2.1)) else ((spec_l01Any.f k t187 bt197.2.1 bt197.2.2).bind fun bt200 => (some (bt191.1, bt191.2.1, bt191.2.2.1, bt200.1, bt200.2.1, bt200.2.2.1)))))) = some (r1, r2, r3, r4, r5, r6) := H
 have A2 := Aside0.mk A20
 clear A20
 replace H := Option.bind_eq_some_iff.mp H
 obtain ⟨⟨t191, t192, t193, t194, t195⟩, A30, H⟩ := H
 replace H : ((spec_l01Once.f t187 t194 t195 4).bind fun bt197 => (if bt197.1 = true then (some (t191, t192, t193, t191, t192, t193)) else ((spec_l01Any.f k t187 bt197.2.1 bt197.2.2).bind fun bt200 => (some (t191, t192, t193, bt200.1, bt200.2.1, bt200.2.2.1))))) = some (r1, r2, r3, r4, r5, r6) := H
 have A3 := Aside0.mk A30
 clear A30
 replace H := Option.bind_eq_some_iff.mp H
 obtain ⟨⟨t197, t198, t199⟩, A40, H⟩ := H
 replace H : (if t197 = true then (some (t191, t192, t193, t191, t192, t193)) else ((spec_l01Any.f k t187 t198 t199).bind fun bt200 => (some (t191, t192, t193, bt200.1, bt200.2.1, bt200.2.2.1)))) = some (r1, r2, r3, r4, r5, r6) := H
 have A4 := Aside0.mk A40
 clear A40
 by_cases c5 : t197 = true
 ·subst c5
  have H1 : (some (t191, t192, t193, t191, t192, t193)) = some (r1, r2, r3, r4, r5, r6) := by rw [if_pos rfl] at H; exact H
  clear H
  have H := H1
  clear H1
  simp only [Option.some.injEq, Prod.mk.injEq] at H
  obtain ⟨rfl, rfl, rfl, rfl, rfl, rfl⟩ := H
  go_enter Tryd.func13, Tryd.ntmps13
  try go_wp2_with (first | ((with_reducible refine gate_dst (N := 2) rfl ?_); refine bx_ 2 #[.int .i64 0, .int .i64 0, .string (⟨#[]⟩ : ByteArray)] 29 ?_; intro gb185 hg w6 hbox hb; have BK185 := Aside0.mk (hbox); have GW185 := gw_ hg; have GE185 := gw_ hg; replace HB := bs_ hb; clear hb hbox hg) | ((with_reducible refine gate_dst (N := 3) rfl ?_); refine bx_ 3 #[.int .i64 0, .int .i64 0, .string (⟨#[]⟩ : ByteArray)] 29 ?_; intro gb186 hg w7 hbox hb; have BK186 := Aside0.mk (hbox); have GW186 := gw_ hg; have GE186 := gw_ hg; have NB185_186 := nl_ hg BK185; have NB186_185 := ng_ hg BK185; replace BK185 := bkb_ BK185 hb; replace HB := bs_ hb; clear hb hbox hg) | ((with_reducible refine gate_callee (f := 52) rfl ?_); refine gsL_ (some 7) Tryd.func52 #[.slice A0 l0.length c0] ?_; (with_reducible refine (spec_l01New.calls k _ _ l0 t187 t188 t189 w _ ?side1 ?side2 ?side3 A2.out).mono ?_); (case side1 => repeat (first | (with_reducible first | exact HB.out | apply below_alloc | apply pw_below_drewN | apply below_drew1 | refine below_set ?_ GE185.out | refine below_set ?_ GE186.out) | exact HB.out)); (case side2 => exact HR0.out); (case side3 => exact HC0.out); rintro e w8 ⟨g190, rfl, hi, hb, hb2⟩; refine ⟨_, rfl, ?_⟩; have HI190 := Aside0.mk (hi); have NB190_185 := Aside0.mk (IsS127.ne_blk hi (blk_below (g := gb185) (o := .cells #[.int .i64 0, .int .i64 0, .string (⟨#[]⟩ : ByteArray)] 29 (0, 0)) (bkx_ BK185.out) hb2) (by decide)); have NB185_190 := Aside0.mk (Ne.symm (IsS127.ne_blk hi (blk_below (g := gb185) (o := .cells #[.int .i64 0, .int .i64 0, .string (⟨#[]⟩ : ByteArray)] 29 (0, 0)) (bkx_ BK185.out) hb2) (by decide))); have NB190_186 := Aside0.mk (IsS127.ne_blk hi (blk_below (g := gb186) (o := .cells #[.int .i64 0, .int .i64 0, .string (⟨#[]⟩ : ByteArray)] 29 (0, 0)) (bkx_ BK186.out) hb2) (by decide)); have NB186_190 := Aside0.mk (Ne.symm (IsS127.ne_blk hi (blk_below (g := gb186) (o := .cells #[.int .i64 0, .int .i64 0, .string (⟨#[]⟩ : ByteArray)] 29 (0, 0)) (bkx_ BK186.out) hb2) (by decide))); replace BK185 := Aside0.mk (blk_below (g := gb185) (o := .cells #[.int .i64 0, .int .i64 0, .string (⟨#[]⟩ : ByteArray)] 29 (0, 0)) (bkx_ BK185.out) hb2); replace BK186 := Aside0.mk (blk_below (g := gb186) (o := .cells #[.int .i64 0, .int .i64 0, .string (⟨#[]⟩ : ByteArray)] 29 (0, 0)) (bkx_ BK186.out) hb2); replace HB := Aside0.mk (hb); (try clear hb); (try clear hb2); (try clear hk); (try clear hi)) | ((with_reducible refine gate_callee (f := 53) rfl ?_); refine gsL_ (some 9) Tryd.func53 #[.pointer (some ⟨g190, 0, none⟩)] ?_; (with_reducible refine (spec_l01Any.calls k g190 t187 t188 t189 t191 t192 t193 t194 t195 w _ ?side1 ?side2 A3.out).mono ?_); (case side1 => repeat (first | (with_reducible first | exact HI190.out | apply IsS127.alloc | apply IsS127.drewN | apply IsS127.drew | apply IsS127.set_1 | apply IsS127.set_2 | apply IsS127.far (hne := NB190_185.out) | apply IsS127.far (hne := NB190_186.out)) | exact HI190.out)); (case side2 => repeat (first | (with_reducible first | exact HB.out | apply below_alloc | apply pw_below_drewN | apply below_drew1 | refine below_set ?_ (IsS127.ge HI190.out) | refine below_set ?_ GE185.out | refine below_set ?_ GE186.out) | exact HB.out)); rintro e w9 ⟨rfl, hi, hb, hk⟩; refine ⟨_, rfl, ?_⟩; replace BK185 := Aside0.mk (KeepBut.blk hk (g' := gb185) (o := .cells #[.int .i64 0, .int .i64 0, .string (⟨#[]⟩ : ByteArray)] 29 (0, 0)) (bkx_ BK185.out) NB185_190.out (by simp)); replace BK186 := Aside0.mk (KeepBut.blk hk (g' := gb186) (o := .cells #[.int .i64 0, .int .i64 0, .string (⟨#[]⟩ : ByteArray)] 29 (0, 0)) (bkx_ BK186.out) NB186_190.out (by simp)); replace HI190 := Aside0.mk (hi); replace HB := Aside0.mk (hb); (try clear hb); (try clear hb2); (try clear hk); (try clear hi)) | ((with_reducible refine gate_dst (N := 5) rfl ?_); refine bx_ 5 #[.int .i64 0, .int .i64 0, .string (⟨#[]⟩ : ByteArray)] 29 ?_; intro gb196 hg w10 hbox hb; have n0_ := bkb_ BK185 hb; have n1_ := bkb_ BK186 hb; have n2_ := Aside0.mk (IsS127.below (by repeat (first | (with_reducible first | exact HI190.out | apply IsS127.alloc | apply IsS127.drewN | apply IsS127.drew | apply IsS127.set_1 | apply IsS127.set_2 | apply IsS127.far (hne := NB190_185.out) | apply IsS127.far (hne := NB190_186.out)) | exact HI190.out)) hb); have n3_ := Aside0.mk (below_step (by repeat (first | (with_reducible first | exact HB.out | apply below_alloc | apply pw_below_drewN | apply below_drew1 | refine below_set ?_ (IsS127.ge HI190.out) | refine below_set ?_ GE185.out | refine below_set ?_ GE186.out) | exact HB.out)) hb); have n4_ := Aside0.mk (hbox); have n5_ := Aside0.mk ((by rw [hg]; exact (below_size (by repeat (first | (with_reducible first | exact HB.out | apply below_alloc | apply pw_below_drewN | apply below_drew1 | refine below_set ?_ (IsS127.ge HI190.out) | refine below_set ?_ GE185.out | refine below_set ?_ GE186.out) | exact HB.out))) : w.heap.size ≤ gb196)); have n6_ := Aside0.mk ((by rw [hg]; exact (below_size (by repeat (first | (with_reducible first | exact HB.out | apply below_alloc | apply pw_below_drewN | apply below_drew1 | refine below_set ?_ (IsS127.ge HI190.out) | refine below_set ?_ GE185.out | refine below_set ?_ GE186.out) | exact HB.out))) : w.heap.size ≤ gb196)); have n7_ := nl_ hg BK185; have n8_ := ng_ hg BK185; have n9_ := nl_ hg BK186; have n10_ := ng_ hg BK186; have n11_ := Aside0.mk ((by rw [hg]; exact Nat.ne_of_lt (IsS127.lt (show IsS127 w _ g190 t187 t194 t195 from by repeat (first | (with_reducible first | exact HI190.out | apply IsS127.alloc | apply IsS127.drewN | apply IsS127.drew | apply IsS127.set_1 | apply IsS127.set_2 | apply IsS127.far (hne := NB190_185.out) | apply IsS127.far (hne := NB190_186.out)) | exact HI190.out))) : g190 ≠ gb196)); have n12_ := Aside0.mk ((by rw [hg]; exact Nat.ne_of_gt (IsS127.lt (show IsS127 w _ g190 t187 t194 t195 from by repeat (first | (with_reducible first | exact HI190.out | apply IsS127.alloc | apply IsS127.drewN | apply IsS127.drew | apply IsS127.set_1 | apply IsS127.set_2 | apply IsS127.far (hne := NB190_185.out) | apply IsS127.far (hne := NB190_186.out)) | exact HI190.out))) : gb196 ≠ g190)); clear BK185; clear BK186; clear HI190; clear HB; have BK185 := n0_; have BK186 := n1_; have HI190 := n2_; have HB := n3_; have BK196 := n4_; have GW196 := n5_; have GE196 := n6_; have NB185_196 := n7_; have NB196_185 := n8_; have NB186_196 := n9_; have NB196_186 := n10_; have NB190_196 := n11_; have NB196_190 := n12_; clear n0_ n1_ n2_ n3_ n4_ n5_ n6_ n7_ n8_ n9_ n10_ n11_ n12_; clear hb hbox hg; have hnb11 := NB196_185.out; have hnc11 := NB185_196.out; have hnb12 := NB196_186.out; have hnc12 := NB186_196.out; have hnb13 := NB196_190.out; have hnc13 := NB190_196.out; obtain ⟨hcz14_0, hcz14_1, hcz14_2, hfz14_0, hfz14_1, hfz14_2⟩ := b3_ BK196) | ((with_reducible refine gate_callee (f := 54) rfl ?_); refine gsL_ (some 11) Tryd.func54 #[.pointer (some ⟨g190, 0, none⟩), .int .i64 4] ?_; (with_reducible refine (spec_l01Once.calls g190 t187 t194 t195 4 true t198 t199 w _ ?side1 ?side2 A4.out).mono ?_); (case side1 => repeat (first | (with_reducible first | exact HI190.out | apply IsS127.alloc | apply IsS127.drewN | apply IsS127.drew | apply IsS127.set_1 | apply IsS127.set_2 | apply IsS127.far (hne := NB190_185.out) | apply IsS127.far (hne := NB190_186.out) | apply IsS127.far (hne := NB190_196.out)) | exact HI190.out)); (case side2 => repeat (first | (with_reducible first | exact HB.out | apply below_alloc | apply pw_below_drewN | apply below_drew1 | refine below_set ?_ (IsS127.ge HI190.out) | refine below_set ?_ GE185.out | refine below_set ?_ GE186.out | refine below_set ?_ GE196.out) | exact HB.out)); rintro e w15 ⟨rfl, hi, hb, hk⟩; refine ⟨_, rfl, ?_⟩; replace BK185 := Aside0.mk (KeepBut.blk hk (g' := gb185) (o := .cells #[.int .i64 0, .int .i64 0, .string (⟨#[]⟩ : ByteArray)] 29 (0, 0)) (bf3_ NB185_196 (bkx_ BK185.out)) NB185_190.out (by simp)); replace BK186 := Aside0.mk (KeepBut.blk hk (g' := gb186) (o := .cells #[.int .i64 0, .int .i64 0, .string (⟨#[]⟩ : ByteArray)] 29 (0, 0)) (bf3_ NB186_196 (bkx_ BK186.out)) NB186_190.out (by simp)); replace BK196 := Aside0.mk (KeepBut.blk hk (g' := gb196) (o := .cells #[.int .i64 t191, .int .i64 t192, .string t193] 29 (0, 0)) (bp3_ (bkx_ BK196.out)) NB196_190.out (by simp)); replace HI190 := Aside0.mk (hi); replace HB := Aside0.mk (hb); (try clear hb); (try clear hb2); (try clear hk); (try clear hi)))
  replace BK185 := Aside0.mk (blk_drew BK185.out)
  replace BK186 := Aside0.mk (blk_drew BK186.out)
  replace BK196 := Aside0.mk (blk_drew BK196.out)
  replace HI190 := Aside0.mk (IsS127.drew HI190.out)
  replace HB := Aside0.mk (below_drew1 HB.out)
  refine start_ (n := 4) (S := fun w' => w'.cell? ⟨gb196, 0, none⟩ = some (.int .i64 t191) ∧ w'.cell? ⟨gb196, 1, none⟩ = some (.int .i64 t192) ∧ w'.cell? ⟨gb196, 2, none⟩ = some (.string t193)) (ds := []) (tf 0 4) (by kernel_rfl) rfl rfl ⟨bc_ BK196 0, bc_ BK196 1, bc_ BK196 2⟩ (fun hHeld => ?_)
  generalize w15.drew = w16 at BK185 BK186 BK196 HI190 HB hHeld ⊢
  refine take_ (i := 0) (N := some 12) (v := ?_) (a' := ?_) (tf 1 3) rfl rfl (by kernel_rfl) (fun _ _ _ h => h) (Or.inl ⟨by rfl, ?_⟩) hHeld ?_ ?_
  rotate_left
  ·rintro w' ⟨s0, s1, s2⟩
   go_simp
   with_reducible rfl
  rotate_left
  ·simp only [Act.put, List.setIfInBounds_toArray, List.set_cons_zero, List.set_cons_succ, i64_w, i32_w]
   rfl
  refine take_ (i := 1) (N := some 13) (v := ?_) (a' := ?_) (tf 2 2) rfl rfl (by kernel_rfl) (fun _ _ _ h => h) (Or.inl ⟨by rfl, ?_⟩) hHeld ?_ ?_
  rotate_left
  ·rintro w' ⟨s0, s1, s2⟩
   go_simp
   with_reducible rfl
  rotate_left
  ·simp only [Act.put, List.setIfInBounds_toArray, List.set_cons_zero, List.set_cons_succ, i64_w, i32_w]
   rfl
  refine one_ (i := 2) (N := none) (tf 3 1) rfl rfl (by kernel_rfl) (by decide) (fun K hK => ?_)
  have hs17 : w16.cell? ⟨gb185, 0, none⟩ = some (.int .i64 0) := bc_ BK185 0
  have hfs17 := blk_frozen BK185.out 0
  have hns17_1 := NB186_185.out
  have hns17_2 := NB196_185.out
  have hms17_1 := NB185_186.out
  have hms17_2 := NB185_196.out
  have hs18 : w16.cell? ⟨gb185, 1, none⟩ = some (.int .i64 0) := bc_ BK185 1
  have hfs18 := blk_frozen BK185.out 1
  have hns18_1 := NB186_185.out
  have hns18_2 := NB196_185.out
  have hms18_1 := NB185_186.out
  have hms18_2 := NB185_196.out
  have hs19 : w16.cell? ⟨gb185, 2, none⟩ = some (.string (⟨#[]⟩ : ByteArray)) := bc_ BK185 2
  have hfs19 := blk_frozen BK185.out 2
  have hns19_1 := NB186_185.out
  have hns19_2 := NB196_185.out
  have hms19_1 := NB185_186.out
  have hms19_2 := NB185_196.out
  refine skip_ (w1 := ?_) (by rfl) rfl ?_ ?_
  rotate_left
  ·go_simp
   rfl
  refine hK.out _ _ ⟨(cf3_ NB196_185 (hHeld.1)), (cf3_ NB196_185 (hHeld.2.1)), (cf3_ NB196_185 (hHeld.2.2))⟩ (fun hHeld => ?_)
  clear hK K
  refine one_ (i := 3) (N := none) (tf 4 0) rfl rfl (by kernel_rfl) (by decide) (fun K hK => ?_)
  have hs20 : w16.cell? ⟨gb186, 0, none⟩ = some (.int .i64 0) := bc_ BK186 0
  have hfs20 := blk_frozen BK186.out 0
  have hns20_0 := NB185_186.out
  have hns20_2 := NB196_186.out
  have hms20_0 := NB186_185.out
  have hms20_2 := NB186_196.out
  have hs21 : w16.cell? ⟨gb186, 1, none⟩ = some (.int .i64 0) := bc_ BK186 1
  have hfs21 := blk_frozen BK186.out 1
  have hns21_0 := NB185_186.out
  have hns21_2 := NB196_186.out
  have hms21_0 := NB186_185.out
  have hms21_2 := NB186_196.out
  have hs22 : w16.cell? ⟨gb186, 2, none⟩ = some (.string (⟨#[]⟩ : ByteArray)) := bc_ BK186 2
  have hfs22 := blk_frozen BK186.out 2
  have hns22_0 := NB185_186.out
  have hns22_2 := NB196_186.out
  have hms22_0 := NB186_185.out
  have hms22_2 := NB186_196.out
  refine skip_ (w1 := ?_) (by rfl) rfl ?_ ?_
  rotate_left
  ·go_simp
   rfl
  refine hK.out _ _ ⟨(cf3_ NB196_186 (hHeld.1)), (cf3_ NB196_186 (hHeld.2.1)), (cf3_ NB196_186 (hHeld.2.2))⟩ (fun hHeld => ?_)
  clear hK K
  refine done_ (by kernel_rfl) ?_
  try go_wp2
  refine bodyPost_ret (results_cc rfl _ _ gb185 gb186 29 29 #[.int .i64 t191, .int .i64 t192, .string t193] #[.int .i64 t191, .int .i64 t192, .string t193] (0, 0) (0, 0) _ _ rfl (by (with_reducible repeat (first | refine blk_drewN ?_ _ | refine blk_drew ?_ | refine blk_alloc ?_ _)); refine blk_far ?_ NB185_186.out _; (with_reducible repeat (first | refine blk_drewN ?_ _ | refine blk_drew ?_ | refine blk_alloc ?_ _)); refine blk_far ?_ NB185_186.out _; (with_reducible repeat (first | refine blk_drewN ?_ _ | refine blk_drew ?_ | refine blk_alloc ?_ _)); refine blk_far ?_ NB185_186.out _; (with_reducible repeat (first | refine blk_drewN ?_ _ | refine blk_drew ?_ | refine blk_alloc ?_ _)); refine blk_put (cs := #[.int .i64 t191, .int .i64 t192, .string (⟨#[]⟩ : ByteArray)]) ?_ 2 _ rfl; (with_reducible repeat (first | refine blk_drewN ?_ _ | refine blk_drew ?_ | refine blk_alloc ?_ _)); refine blk_put (cs := #[.int .i64 t191, .int .i64 0, .string (⟨#[]⟩ : ByteArray)]) ?_ 1 _ rfl; (with_reducible repeat (first | refine blk_drewN ?_ _ | refine blk_drew ?_ | refine blk_alloc ?_ _)); refine blk_put (cs := #[.int .i64 0, .int .i64 0, .string (⟨#[]⟩ : ByteArray)]) ?_ 0 _ rfl; (with_reducible repeat (first | refine blk_drewN ?_ _ | refine blk_drew ?_ | refine blk_alloc ?_ _)); exact BK185.out) Tryd.underlying29 rfl (by kernel_rfl) rfl (by (with_reducible repeat (first | refine blk_drewN ?_ _ | refine blk_drew ?_ | refine blk_alloc ?_ _)); refine blk_put (cs := #[.int .i64 t191, .int .i64 t192, .string (⟨#[]⟩ : ByteArray)]) ?_ 2 _ rfl; (with_reducible repeat (first | refine blk_drewN ?_ _ | refine blk_drew ?_ | refine blk_alloc ?_ _)); refine blk_put (cs := #[.int .i64 t191, .int .i64 0, .string (⟨#[]⟩ : ByteArray)]) ?_ 1 _ rfl; (with_reducible repeat (first | refine blk_drewN ?_ _ | refine blk_drew ?_ | refine blk_alloc ?_ _)); refine blk_put (cs := #[.int .i64 0, .int .i64 0, .string (⟨#[]⟩ : ByteArray)]) ?_ 0 _ rfl; (with_reducible repeat (first | refine blk_drewN ?_ _ | refine blk_drew ?_ | refine blk_alloc ?_ _)); refine blk_far ?_ NB186_185.out _; (with_reducible repeat (first | refine blk_drewN ?_ _ | refine blk_drew ?_ | refine blk_alloc ?_ _)); refine blk_far ?_ NB186_185.out _; (with_reducible repeat (first | refine blk_drewN ?_ _ | refine blk_drew ?_ | refine blk_alloc ?_ _)); refine blk_far ?_ NB186_185.out _; (with_reducible repeat (first | refine blk_drewN ?_ _ | refine blk_drew ?_ | refine blk_alloc ?_ _)); exact BK186.out) Tryd.underlying29 rfl (by kernel_rfl)) rfl ?_
  exact ⟨by first | rfl | (simp [errW_none, errW_some] <;> rfl) | (simp [*, errW_none, errW_some] <;> rfl), by repeat (first | (with_reducible first | exact HB.out | apply below_alloc | apply pw_below_drewN | apply below_drew1 | refine below_set ?_ (IsS127.ge HI190.out) | refine below_set ?_ GE185.out | refine below_set ?_ GE186.out | refine below_set ?_ GE196.out) | exact HB.out)⟩
 ·replace c5 := Bool.eq_false_iff.mpr c5
  subst c5
  have H1 : ((spec_l01Any.f k t187 t198 t199).bind fun bt200 => (some (t191, t192, t193, bt200.1, bt200.2.1, bt200.2.2.1))) = some (r1, r2, r3, r4, r5, r6) := by rw [if_neg (show ¬ (false = true) by decide)] at H; exact H
  clear H
  have H := H1
  clear H1
  replace H := Option.bind_eq_some_iff.mp H
  obtain ⟨⟨t200, t201, t202, t203, t204⟩, A230, H⟩ := H
  replace H : (some (t191, t192, t193, t200, t201, t202)) = some (r1, r2, r3, r4, r5, r6) := H
  have A23 := Aside0.mk A230
  clear A230
  simp only [Option.some.injEq, Prod.mk.injEq] at H
  obtain ⟨rfl, rfl, rfl, rfl, rfl, rfl⟩ := H
  go_enter Tryd.func13, Tryd.ntmps13
  try go_wp2_with (first | ((with_reducible refine gate_dst (N := 2) rfl ?_); refine bx_ 2 #[.int .i64 0, .int .i64 0, .string (⟨#[]⟩ : ByteArray)] 29 ?_; intro gb185 hg w24 hbox hb; have BK185 := Aside0.mk (hbox); have GW185 := gw_ hg; have GE185 := gw_ hg; replace HB := bs_ hb; clear hb hbox hg) | ((with_reducible refine gate_dst (N := 3) rfl ?_); refine bx_ 3 #[.int .i64 0, .int .i64 0, .string (⟨#[]⟩ : ByteArray)] 29 ?_; intro gb186 hg w25 hbox hb; have BK186 := Aside0.mk (hbox); have GW186 := gw_ hg; have GE186 := gw_ hg; have NB185_186 := nl_ hg BK185; have NB186_185 := ng_ hg BK185; replace BK185 := bkb_ BK185 hb; replace HB := bs_ hb; clear hb hbox hg) | ((with_reducible refine gate_callee (f := 52) rfl ?_); refine gsL_ (some 7) Tryd.func52 #[.slice A0 l0.length c0] ?_; (with_reducible refine (spec_l01New.calls k _ _ l0 t187 t188 t189 w _ ?side1 ?side2 ?side3 A2.out).mono ?_); (case side1 => repeat (first | (with_reducible first | exact HB.out | apply below_alloc | apply pw_below_drewN | apply below_drew1 | refine below_set ?_ GE185.out | refine below_set ?_ GE186.out) | exact HB.out)); (case side2 => exact HR0.out); (case side3 => exact HC0.out); rintro e w26 ⟨g190, rfl, hi, hb, hb2⟩; refine ⟨_, rfl, ?_⟩; have HI190 := Aside0.mk (hi); have NB190_185 := Aside0.mk (IsS127.ne_blk hi (blk_below (g := gb185) (o := .cells #[.int .i64 0, .int .i64 0, .string (⟨#[]⟩ : ByteArray)] 29 (0, 0)) (bkx_ BK185.out) hb2) (by decide)); have NB185_190 := Aside0.mk (Ne.symm (IsS127.ne_blk hi (blk_below (g := gb185) (o := .cells #[.int .i64 0, .int .i64 0, .string (⟨#[]⟩ : ByteArray)] 29 (0, 0)) (bkx_ BK185.out) hb2) (by decide))); have NB190_186 := Aside0.mk (IsS127.ne_blk hi (blk_below (g := gb186) (o := .cells #[.int .i64 0, .int .i64 0, .string (⟨#[]⟩ : ByteArray)] 29 (0, 0)) (bkx_ BK186.out) hb2) (by decide)); have NB186_190 := Aside0.mk (Ne.symm (IsS127.ne_blk hi (blk_below (g := gb186) (o := .cells #[.int .i64 0, .int .i64 0, .string (⟨#[]⟩ : ByteArray)] 29 (0, 0)) (bkx_ BK186.out) hb2) (by decide))); replace BK185 := Aside0.mk (blk_below (g := gb185) (o := .cells #[.int .i64 0, .int .i64 0, .string (⟨#[]⟩ : ByteArray)] 29 (0, 0)) (bkx_ BK185.out) hb2); replace BK186 := Aside0.mk (blk_below (g := gb186) (o := .cells #[.int .i64 0, .int .i64 0, .string (⟨#[]⟩ : ByteArray)] 29 (0, 0)) (bkx_ BK186.out) hb2); replace HB := Aside0.mk (hb); (try clear hb); (try clear hb2); (try clear hk); (try clear hi)) | ((with_reducible refine gate_callee (f := 53) rfl ?_); refine gsL_ (some 9) Tryd.func53 #[.pointer (some ⟨g190, 0, none⟩)] ?_; (with_reducible refine (spec_l01Any.calls k g190 t187 t188 t189 t191 t192 t193 t194 t195 w _ ?side1 ?side2 A3.out).mono ?_); (case side1 => repeat (first | (with_reducible first | exact HI190.out | apply IsS127.alloc | apply IsS127.drewN | apply IsS127.drew | apply IsS127.set_1 | apply IsS127.set_2 | apply IsS127.far (hne := NB190_185.out) | apply IsS127.far (hne := NB190_186.out)) | exact HI190.out)); (case side2 => repeat (first | (with_reducible first | exact HB.out | apply below_alloc | apply pw_below_drewN | apply below_drew1 | refine below_set ?_ (IsS127.ge HI190.out) | refine below_set ?_ GE185.out | refine below_set ?_ GE186.out) | exact HB.out)); rintro e w27 ⟨rfl, hi, hb, hk⟩; refine ⟨_, rfl, ?_⟩; replace BK185 := Aside0.mk (KeepBut.blk hk (g' := gb185) (o := .cells #[.int .i64 0, .int .i64 0, .string (⟨#[]⟩ : ByteArray)] 29 (0, 0)) (bkx_ BK185.out) NB185_190.out (by simp)); replace BK186 := Aside0.mk (KeepBut.blk hk (g' := gb186) (o := .cells #[.int .i64 0, .int .i64 0, .string (⟨#[]⟩ : ByteArray)] 29 (0, 0)) (bkx_ BK186.out) NB186_190.out (by simp)); replace HI190 := Aside0.mk (hi); replace HB := Aside0.mk (hb); (try clear hb); (try clear hb2); (try clear hk); (try clear hi)) | ((with_reducible refine gate_dst (N := 5) rfl ?_); refine bx_ 5 #[.int .i64 0, .int .i64 0, .string (⟨#[]⟩ : ByteArray)] 29 ?_; intro gb196 hg w28 hbox hb; have n0_ := bkb_ BK185 hb; have n1_ := bkb_ BK186 hb; have n2_ := Aside0.mk (IsS127.below (by repeat (first | (with_reducible first | exact HI190.out | apply IsS127.alloc | apply IsS127.drewN | apply IsS127.drew | apply IsS127.set_1 | apply IsS127.set_2 | apply IsS127.far (hne := NB190_185.out) | apply IsS127.far (hne := NB190_186.out)) | exact HI190.out)) hb); have n3_ := Aside0.mk (below_step (by repeat (first | (with_reducible first | exact HB.out | apply below_alloc | apply pw_below_drewN | apply below_drew1 | refine below_set ?_ (IsS127.ge HI190.out) | refine below_set ?_ GE185.out | refine below_set ?_ GE186.out) | exact HB.out)) hb); have n4_ := Aside0.mk (hbox); have n5_ := Aside0.mk ((by rw [hg]; exact (below_size (by repeat (first | (with_reducible first | exact HB.out | apply below_alloc | apply pw_below_drewN | apply below_drew1 | refine below_set ?_ (IsS127.ge HI190.out) | refine below_set ?_ GE185.out | refine below_set ?_ GE186.out) | exact HB.out))) : w.heap.size ≤ gb196)); have n6_ := Aside0.mk ((by rw [hg]; exact (below_size (by repeat (first | (with_reducible first | exact HB.out | apply below_alloc | apply pw_below_drewN | apply below_drew1 | refine below_set ?_ (IsS127.ge HI190.out) | refine below_set ?_ GE185.out | refine below_set ?_ GE186.out) | exact HB.out))) : w.heap.size ≤ gb196)); have n7_ := nl_ hg BK185; have n8_ := ng_ hg BK185; have n9_ := nl_ hg BK186; have n10_ := ng_ hg BK186; have n11_ := Aside0.mk ((by rw [hg]; exact Nat.ne_of_lt (IsS127.lt (show IsS127 w _ g190 t187 t194 t195 from by repeat (first | (with_reducible first | exact HI190.out | apply IsS127.alloc | apply IsS127.drewN | apply IsS127.drew | apply IsS127.set_1 | apply IsS127.set_2 | apply IsS127.far (hne := NB190_185.out) | apply IsS127.far (hne := NB190_186.out)) | exact HI190.out))) : g190 ≠ gb196)); have n12_ := Aside0.mk ((by rw [hg]; exact Nat.ne_of_gt (IsS127.lt (show IsS127 w _ g190 t187 t194 t195 from by repeat (first | (with_reducible first | exact HI190.out | apply IsS127.alloc | apply IsS127.drewN | apply IsS127.drew | apply IsS127.set_1 | apply IsS127.set_2 | apply IsS127.far (hne := NB190_185.out) | apply IsS127.far (hne := NB190_186.out)) | exact HI190.out))) : gb196 ≠ g190)); clear BK185; clear BK186; clear HI190; clear HB; have BK185 := n0_; have BK186 := n1_; have HI190 := n2_; have HB := n3_; have BK196 := n4_; have GW196 := n5_; have GE196 := n6_; have NB185_196 := n7_; have NB196_185 := n8_; have NB186_196 := n9_; have NB196_186 := n10_; have NB190_196 := n11_; have NB196_190 := n12_; clear n0_ n1_ n2_ n3_ n4_ n5_ n6_ n7_ n8_ n9_ n10_ n11_ n12_; clear hb hbox hg; have hnb29 := NB196_185.out; have hnc29 := NB185_196.out; have hnb30 := NB196_186.out; have hnc30 := NB186_196.out; have hnb31 := NB196_190.out; have hnc31 := NB190_196.out; obtain ⟨hcz32_0, hcz32_1, hcz32_2, hfz32_0, hfz32_1, hfz32_2⟩ := b3_ BK196) | ((with_reducible refine gate_callee (f := 54) rfl ?_); refine gsL_ (some 11) Tryd.func54 #[.pointer (some ⟨g190, 0, none⟩), .int .i64 4] ?_; (with_reducible refine (spec_l01Once.calls g190 t187 t194 t195 4 false t198 t199 w _ ?side1 ?side2 A4.out).mono ?_); (case side1 => repeat (first | (with_reducible first | exact HI190.out | apply IsS127.alloc | apply IsS127.drewN | apply IsS127.drew | apply IsS127.set_1 | apply IsS127.set_2 | apply IsS127.far (hne := NB190_185.out) | apply IsS127.far (hne := NB190_186.out) | apply IsS127.far (hne := NB190_196.out)) | exact HI190.out)); (case side2 => repeat (first | (with_reducible first | exact HB.out | apply below_alloc | apply pw_below_drewN | apply below_drew1 | refine below_set ?_ (IsS127.ge HI190.out) | refine below_set ?_ GE185.out | refine below_set ?_ GE186.out | refine below_set ?_ GE196.out) | exact HB.out)); rintro e w33 ⟨rfl, hi, hb, hk⟩; refine ⟨_, rfl, ?_⟩; replace BK185 := Aside0.mk (KeepBut.blk hk (g' := gb185) (o := .cells #[.int .i64 0, .int .i64 0, .string (⟨#[]⟩ : ByteArray)] 29 (0, 0)) (bf3_ NB185_196 (bkx_ BK185.out)) NB185_190.out (by simp)); replace BK186 := Aside0.mk (KeepBut.blk hk (g' := gb186) (o := .cells #[.int .i64 0, .int .i64 0, .string (⟨#[]⟩ : ByteArray)] 29 (0, 0)) (bf3_ NB186_196 (bkx_ BK186.out)) NB186_190.out (by simp)); replace BK196 := Aside0.mk (KeepBut.blk hk (g' := gb196) (o := .cells #[.int .i64 t191, .int .i64 t192, .string t193] 29 (0, 0)) (bp3_ (bkx_ BK196.out)) NB196_190.out (by simp)); replace HI190 := Aside0.mk (hi); replace HB := Aside0.mk (hb); (try clear hb); (try clear hb2); (try clear hk); (try clear hi)))
  replace BK185 := Aside0.mk (blk_drew BK185.out)
  replace BK186 := Aside0.mk (blk_drew BK186.out)
  replace BK196 := Aside0.mk (blk_drew BK196.out)
  replace HI190 := Aside0.mk (IsS127.drew HI190.out)
  replace HB := Aside0.mk (below_drew1 HB.out)
  refine start_ (n := 5) (S := fun w' => w'.cell? ⟨gb196, 0, none⟩ = some (.int .i64 t191) ∧ w'.cell? ⟨gb196, 1, none⟩ = some (.int .i64 t192) ∧ w'.cell? ⟨gb196, 2, none⟩ = some (.string t193)) (ds := []) (tf 0 5) (by kernel_rfl) rfl rfl ⟨bc_ BK196 0, bc_ BK196 1, bc_ BK196 2⟩ (fun hHeld => ?_)
  generalize w33.drew = w34 at BK185 BK186 BK196 HI190 HB hHeld ⊢
  refine pure_ (i := 1) (N := some 15) (v := ?_) (a' := ?_) #[false, true, false, false, false] rfl rfl (by kernel_rfl) (fun _ _ _ h => h) (Or.inl ⟨by rfl, ?_⟩) ?_ ?_
  rotate_left
  ·intro w'
   go_simp
   with_reducible rfl
  rotate_left
  ·simp only [Act.put, List.setIfInBounds_toArray, List.set_cons_zero, List.set_cons_succ, i64_w, i32_w]
   rfl
  refine take_ (i := 0) (N := some 14) (v := ?_) (a' := ?_) (tf 2 3) rfl rfl (by kernel_rfl) (fun _ _ _ h => h) (Or.inl ⟨by rfl, ?_⟩) hHeld ?_ ?_
  rotate_left
  ·rintro w' ⟨s0, s1, s2⟩
   go_simp
   with_reducible rfl
  rotate_left
  ·simp only [Act.put, List.setIfInBounds_toArray, List.set_cons_zero, List.set_cons_succ, i64_w, i32_w]
   rfl
  refine one_ (i := 2) (N := some 16) (tf 3 2) rfl rfl (by kernel_rfl) (by decide) (fun K hK => ?_)
  refine gs_ Tryd.func53 #[.pointer (some ⟨g190, 0, none⟩)] ?_
  with_reducible refine (spec_l01Any.calls k g190 t187 t198 t199 t200 t201 t202 t203 t204 w _ ?side1 ?side2 A23.out).mono ?_
  (case side1 => repeat (first | (with_reducible first | exact HI190.out | apply IsS127.alloc | apply IsS127.drewN | apply IsS127.drew | apply IsS127.set_1 | apply IsS127.set_2 | apply IsS127.far (hne := NB190_185.out) | apply IsS127.far (hne := NB190_186.out) | apply IsS127.far (hne := NB190_196.out)) | exact HI190.out))
  (case side2 => repeat (first | (with_reducible first | exact HB.out | apply below_alloc | apply pw_below_drewN | apply below_drew1 | refine below_set ?_ (IsS127.ge HI190.out) | refine below_set ?_ GE185.out | refine below_set ?_ GE186.out | refine below_set ?_ GE196.out) | exact HB.out))
  rintro e w35 ⟨rfl, hi, hb, hk⟩
  refine ⟨_, rfl, ?_⟩
  replace BK185 := Aside0.mk (KeepBut.blk hk (g' := gb185) (o := .cells #[.int .i64 0, .int .i64 0, .string (⟨#[]⟩ : ByteArray)] 29 (0, 0)) (bkx_ BK185.out) NB185_190.out (by simp))
  replace BK186 := Aside0.mk (KeepBut.blk hk (g' := gb186) (o := .cells #[.int .i64 0, .int .i64 0, .string (⟨#[]⟩ : ByteArray)] 29 (0, 0)) (bkx_ BK186.out) NB186_190.out (by simp))
  replace BK196 := Aside0.mk (KeepBut.blk hk (g' := gb196) (o := .cells #[.int .i64 t191, .int .i64 t192, .string t193] 29 (0, 0)) (bkx_ BK196.out) NB196_190.out (by simp))
  replace HI190 := Aside0.mk (hi)
  replace HB := Aside0.mk (hb)
  (try clear hb)
  (try clear hb2)
  (try clear hk)
  (try clear hi)
  refine hK.out _ _ ⟨bc_ BK196 0, bc_ BK196 1, bc_ BK196 2⟩ (fun hHeld => ?_)
  clear hK K
  refine nm_ ?_
  refine one_ (i := 3) (N := none) (tf 4 1) rfl rfl (by kernel_rfl) (by decide) (fun K hK => ?_)
  have hs36 : w35.cell? ⟨gb185, 0, none⟩ = some (.int .i64 0) := bc_ BK185 0
  have hfs36 := blk_frozen BK185.out 0
  have hns36_1 := NB186_185.out
  have hns36_2 := NB196_185.out
  have hms36_1 := NB185_186.out
  have hms36_2 := NB185_196.out
  have hs37 : w35.cell? ⟨gb185, 1, none⟩ = some (.int .i64 0) := bc_ BK185 1
  have hfs37 := blk_frozen BK185.out 1
  have hns37_1 := NB186_185.out
  have hns37_2 := NB196_185.out
  have hms37_1 := NB185_186.out
  have hms37_2 := NB185_196.out
  have hs38 : w35.cell? ⟨gb185, 2, none⟩ = some (.string (⟨#[]⟩ : ByteArray)) := bc_ BK185 2
  have hfs38 := blk_frozen BK185.out 2
  have hns38_1 := NB186_185.out
  have hns38_2 := NB196_185.out
  have hms38_1 := NB185_186.out
  have hms38_2 := NB185_196.out
  refine skip_ (w1 := ?_) (by rfl) rfl ?_ ?_
  rotate_left
  ·go_simp
   rfl
  refine hK.out _ _ ⟨(cf3_ NB196_185 (hHeld.1)), (cf3_ NB196_185 (hHeld.2.1)), (cf3_ NB196_185 (hHeld.2.2))⟩ (fun hHeld => ?_)
  clear hK K
  refine one_ (i := 4) (N := none) (tf 5 0) rfl rfl (by kernel_rfl) (by decide) (fun K hK => ?_)
  have hs39 : w35.cell? ⟨gb186, 0, none⟩ = some (.int .i64 0) := bc_ BK186 0
  have hfs39 := blk_frozen BK186.out 0
  have hns39_0 := NB185_186.out
  have hns39_2 := NB196_186.out
  have hms39_0 := NB186_185.out
  have hms39_2 := NB186_196.out
  have hs40 : w35.cell? ⟨gb186, 1, none⟩ = some (.int .i64 0) := bc_ BK186 1
  have hfs40 := blk_frozen BK186.out 1
  have hns40_0 := NB185_186.out
  have hns40_2 := NB196_186.out
  have hms40_0 := NB186_185.out
  have hms40_2 := NB186_196.out
  have hs41 : w35.cell? ⟨gb186, 2, none⟩ = some (.string (⟨#[]⟩ : ByteArray)) := bc_ BK186 2
  have hfs41 := blk_frozen BK186.out 2
  have hns41_0 := NB185_186.out
  have hns41_2 := NB196_186.out
  have hms41_0 := NB186_185.out
  have hms41_2 := NB186_196.out
  refine skip_ (w1 := ?_) (by rfl) rfl ?_ ?_
  rotate_left
  ·go_simp
   rfl
  refine hK.out _ _ ⟨(cf3_ NB196_186 (hHeld.1)), (cf3_ NB196_186 (hHeld.2.1)), (cf3_ NB196_186 (hHeld.2.2))⟩ (fun hHeld => ?_)
  clear hK K
  refine done_ (by kernel_rfl) ?_
  try go_wp2
  refine bodyPost_ret (results_cc rfl _ _ gb185 gb186 29 29 #[.int .i64 t191, .int .i64 t192, .string t193] #[.int .i64 t200, .int .i64 t201, .string t202] (0, 0) (0, 0) _ _ rfl (by (with_reducible repeat (first | refine blk_drewN ?_ _ | refine blk_drew ?_ | refine blk_alloc ?_ _)); refine blk_far ?_ NB185_186.out _; (with_reducible repeat (first | refine blk_drewN ?_ _ | refine blk_drew ?_ | refine blk_alloc ?_ _)); refine blk_far ?_ NB185_186.out _; (with_reducible repeat (first | refine blk_drewN ?_ _ | refine blk_drew ?_ | refine blk_alloc ?_ _)); refine blk_far ?_ NB185_186.out _; (with_reducible repeat (first | refine blk_drewN ?_ _ | refine blk_drew ?_ | refine blk_alloc ?_ _)); refine blk_put (cs := #[.int .i64 t191, .int .i64 t192, .string (⟨#[]⟩ : ByteArray)]) ?_ 2 _ rfl; (with_reducible repeat (first | refine blk_drewN ?_ _ | refine blk_drew ?_ | refine blk_alloc ?_ _)); refine blk_put (cs := #[.int .i64 t191, .int .i64 0, .string (⟨#[]⟩ : ByteArray)]) ?_ 1 _ rfl; (with_reducible repeat (first | refine blk_drewN ?_ _ | refine blk_drew ?_ | refine blk_alloc ?_ _)); refine blk_put (cs := #[.int .i64 0, .int .i64 0, .string (⟨#[]⟩ : ByteArray)]) ?_ 0 _ rfl; (with_reducible repeat (first | refine blk_drewN ?_ _ | refine blk_drew ?_ | refine blk_alloc ?_ _)); exact BK185.out) Tryd.underlying29 rfl (by kernel_rfl) rfl (by (with_reducible repeat (first | refine blk_drewN ?_ _ | refine blk_drew ?_ | refine blk_alloc ?_ _)); refine blk_put (cs := #[.int .i64 t200, .int .i64 t201, .string (⟨#[]⟩ : ByteArray)]) ?_ 2 _ rfl; (with_reducible repeat (first | refine blk_drewN ?_ _ | refine blk_drew ?_ | refine blk_alloc ?_ _)); refine blk_put (cs := #[.int .i64 t200, .int .i64 0, .string (⟨#[]⟩ : ByteArray)]) ?_ 1 _ rfl; (with_reducible repeat (first | refine blk_drewN ?_ _ | refine blk_drew ?_ | refine blk_alloc ?_ _)); refine blk_put (cs := #[.int .i64 0, .int .i64 0, .string (⟨#[]⟩ : ByteArray)]) ?_ 0 _ rfl; (with_reducible repeat (first | refine blk_drewN ?_ _ | refine blk_drew ?_ | refine blk_alloc ?_ _)); refine blk_far ?_ NB186_185.out _; (with_reducible repeat (first | refine blk_drewN ?_ _ | refine blk_drew ?_ | refine blk_alloc ?_ _)); refine blk_far ?_ NB186_185.out _; (with_reducible repeat (first | refine blk_drewN ?_ _ | refine blk_drew ?_ | refine blk_alloc ?_ _)); refine blk_far ?_ NB186_185.out _; (with_reducible repeat (first | refine blk_drewN ?_ _ | refine blk_drew ?_ | refine blk_alloc ?_ _)); exact BK186.out) Tryd.underlying29 rfl (by kernel_rfl)) rfl ?_
  exact ⟨by first | rfl | (simp [errW_none, errW_some] <;> rfl) | (simp [*, errW_none, errW_some] <;> rfl), by repeat (first | (with_reducible first | exact HB.out | apply below_alloc | apply pw_below_drewN | apply below_drew1 | refine below_set ?_ (IsS127.ge HI190.out) | refine below_set ?_ GE185.out | refine below_set ?_ GE186.out | refine below_set ?_ GE196.out) | exact HB.out)⟩

/-! ### cmp_Or_int: function 55 -/
def cmp_Or_int.l0 : Nat → Int → List Int → Int → Int → Option (Int)
 | 0, _, _, _, _ => none
 | k + 1, x3, x6, x7, x8 => if x8 < x7 then (if 0 ≤ x8 then (if x8 < (x6.length : Int) then (if (rd x6 x8) = x3 then (cmp_Or_int.l0 k x3 x6 x7 (wrap64 (x8 + 1))) else (some (rd x6 x8))) else (none)) else (none)) else (some x3)
def cmp_Or_int.f (k : Nat) (l0 : List Int) : Option (Int) := cmp_Or_int.l0 k 0 l0 (l0.length : Int) 0
set_option maxHeartbeats 8000000 in
set_option maxRecDepth 100000 in
theorem cmp_Or_int.calls (k : Nat) (A0 : Option Addr) (c0 : Nat) (l0 : List Int) (r : Int) (w : World) (hr0 : Kd.C (Kd.int .i64) w A0 l0.length l0) (hc0 : l0.length ≤ c0) (h : cmp_Or_int.f k l0 = some r) :
  Calls Tryd.prog 55 #[.slice A0 l0.length c0] w fun e w' => e = .returned (.int .i64 r) ∧ Drawn0 w w' := by
 have HR0 := Aside0.mk hr0
 have HC0 := Aside0.mk hc0
 clear hr0 hc0
 have H : (cmp_Or_int.l0 k 0 l0 (l0.length : Int) 0) = some r := h
 clear h
 have H' := Aside0.mk H
 clear H
 go_enter Tryd.func55, Tryd.ntmps55
 go_wp2
 go_loopg [8] k (fun kq v8 w' => ∃ (x8_1 : Int), v8 = .int .i64 x8_1 ∧ Aside0 (cmp_Or_int.l0 kq 0 l0 (l0.length : Int) x8_1 = some r) ∧ Aside0 (kq ≤ k) ∧ Drawn0 w w')
 case atStart => exact ⟨(0), rs_, H', ⟨Nat.le_refl _⟩, by repeat (first | exact Drawn0.refl _ | apply Drawn0.step)⟩
 case round =>
  clear H'
  obtain ⟨x8_1, rfl, HA, HK1, ⟨m1, rfl⟩⟩ := hrel
  cases gk with
  | zero => exact absurd HA.out (by simp [cmp_Or_int.l0])
  | succ k1 =>
   have H := HA.out
   clear HA
   simp only [cmp_Or_int.l0] at H
   by_cases c2 : x8_1 < (l0.length : Int)
   ·rw [if_pos c2] at H
    have c2b0 : decide (x8_1 < (l0.length : Int)) = true := decide_eq_true c2
    clear c2
    by_cases c3 : 0 ≤ x8_1
    ·rw [if_pos c3] at H
     have c3b0 : decide (0 ≤ x8_1) = true := decide_eq_true c3
     clear c3
     by_cases c4 : x8_1 < (l0.length : Int)
     ·rw [if_pos c4] at H
      have c4b0 : decide (x8_1 < (l0.length : Int)) = true := decide_eq_true c4
      clear c4
      by_cases c5 : (rd l0 x8_1) = 0
      ·rw [if_pos c5] at H
       have c5b0 : ((rd l0 x8_1) == 0) = true := beq_iff_eq.mpr c5
       have c5b1 : ((rd l0 x8_1) != 0) = false := bne_eq_false_iff_eq.mpr c5
       clear c5
       have H' := Aside0.mk H
       clear H
       have p205 : 0 ≤ (x8_1 : Int) := of_decide_eq_true (by first | (with_reducible assumption) | assumption)
       have q205 : x8_1 < (l0.length : Int) := of_decide_eq_true (by first | (with_reducible assumption) | assumption)
       obtain ⟨ad205, e205, hx205_0⟩ := Kd.at_int HR0.out x8_1 p205 q205
       cases e205
       replace p205 := eq_true p205
       replace q205 := eq_true q205
       go_wp2
       go_roundg k1
       case measure => have := HK1.out; omega
       case rel => exact ⟨(wrap64 (x8_1 + 1)), rs_, H', ⟨by have := HK1.out; omega⟩, by repeat (first | exact Drawn0.refl _ | apply Drawn0.step)⟩
      ·rw [if_neg c5] at H
       have c5b0 : ((rd l0 x8_1) == 0) = false := beq_eq_false_iff_ne.mpr c5
       have c5b1 : ((rd l0 x8_1) != 0) = true := bne_iff_ne.mpr c5
       obtain rfl := Option.some.inj H
       have p205 : 0 ≤ (x8_1 : Int) := of_decide_eq_true (by first | (with_reducible assumption) | assumption)
       have q205 : x8_1 < (l0.length : Int) := of_decide_eq_true (by first | (with_reducible assumption) | assumption)
       obtain ⟨ad205, e205, hx205_0⟩ := Kd.at_int HR0.out x8_1 p205 q205
       cases e205
       replace p205 := eq_true p205
       replace q205 := eq_true q205
       go_wp2
       go_ret
       exact ⟨by first | rfl | (simp; done) | (simp [*]; done), by repeat (first | exact Drawn0.refl _ | apply Drawn0.step)⟩
     ·rw [if_neg c4] at H
      exact absurd H (by simp)
    ·rw [if_neg c3] at H
     exact absurd H (by simp)
   ·rw [if_neg c2] at H
    have c2b0 : decide (x8_1 < (l0.length : Int)) = false := decide_eq_false c2
    clear c2
    obtain rfl := Option.some.inj H
    go_wp2
    go_ret
    exact ⟨by first | rfl | (simp; done) | (simp [*]; done), by repeat (first | exact Drawn0.refl _ | apply Drawn0.step)⟩

/-! ### cmp_isNaN_int: function 89 -/
def cmp_isNaN_int.f (a0 : Int) : Option (Bool) := some (a0 != a0)
set_option maxHeartbeats 8000000 in
set_option maxRecDepth 100000 in
theorem cmp_isNaN_int.calls (a0 : Int) (r : Bool) (w : World) (h : cmp_isNaN_int.f a0 = some r) :
  Calls Tryd.prog 89 #[.int .i64 a0] w fun e w' => e = .returned (.bool r) ∧ Drawn0 w w' := by
 have H : (some (a0 != a0)) = some r := h
 clear h
 obtain rfl := Option.some.inj H
 go_enter Tryd.func89, Tryd.ntmps89
 go_wp2
 go_ret
 exact ⟨by first | rfl | (simp; done) | (simp [*]; done), by repeat (first | exact Drawn0.refl _ | apply Drawn0.step)⟩

/-! ### cmp_Compare_int: function 56 -/
def cmp_Compare_int.f (a0 : Int) (a1 : Int) : Option (Int) := (cmp_isNaN_int.f a0).bind fun t206 => ((cmp_isNaN_int.f a1).bind fun t207 => (if t206 = true then (if t207 = true then (some 0) else (some (-1))) else (if t207 = true then (some 1) else (if a0 < a1 then (some (-1)) else (if a0 > a1 then (some 1) else (some 0))))))
set_option maxHeartbeats 8000000 in
set_option maxRecDepth 100000 in
theorem cmp_Compare_int.calls (a0 : Int) (a1 : Int) (r : Int) (w : World) (h : cmp_Compare_int.f a0 a1 = some r) :
  Calls Tryd.prog 56 #[.int .i64 a0, .int .i64 a1] w fun e w' => e = .returned (.int .i64 r) ∧ Drawn0 w w' := by
 have H : ((cmp_isNaN_int.f a0).bind fun t206 => ((cmp_isNaN_int.f a1).bind fun t207 => (if t206 = true then (if t207 = true then (some 0) else (some (-1))) else (if t207 = true then (some 1) else (if a0 < a1 then (some (-1)) else (if a0 > a1 then (some 1) else (some 0))))))) = some r := h
 clear h
 replace H := Option.bind_eq_some_iff.mp H
 obtain ⟨t206, A30, H⟩ := H
 replace H : ((cmp_isNaN_int.f a1).bind fun t207 => (if t206 = true then (if t207 = true then (some 0) else (some (-1))) else (if t207 = true then (some 1) else (if a0 < a1 then (some (-1)) else (if a0 > a1 then (some 1) else (some 0)))))) = some r := H
 have A3 := Aside0.mk A30
 clear A30
 replace H := Option.bind_eq_some_iff.mp H
 obtain ⟨t207, A40, H⟩ := H
 replace H : (if t206 = true then (if t207 = true then (some 0) else (some (-1))) else (if t207 = true then (some 1) else (if a0 < a1 then (some (-1)) else (if a0 > a1 then (some 1) else (some 0))))) = some r := H
 have A4 := Aside0.mk A40
 clear A40
 by_cases c5 : t206 = true
 ·subst c5
  have H1 : (if t207 = true then (some 0) else (some (-1))) = some r := by rw [if_pos rfl] at H; exact H
  clear H
  have H := H1
  clear H1
  by_cases c6 : t207 = true
  ·subst c6
   have H1 : (some 0) = some r := by rw [if_pos rfl] at H; exact H
   clear H
   have H := H1
   clear H1
   obtain rfl := Option.some.inj H
   go_enter Tryd.func56, Tryd.ntmps56
   go_wp2_with (first | ((with_reducible refine gate_callee (f := 89) rfl ?_); refine gsL_ (some 8) Tryd.func89 #[.int .i64 a0] ?_; (with_reducible refine (cmp_isNaN_int.calls a0 true _ A3.out).mono ?_); rintro e w' ⟨rfl, ⟨nd, rfl⟩⟩; refine ⟨_, rfl, ?_⟩) | ((with_reducible refine gate_callee (f := 89) rfl ?_); refine gsL_ (some 10) Tryd.func89 #[.int .i64 a1] ?_; (with_reducible refine (cmp_isNaN_int.calls a1 true _ A4.out).mono ?_); rintro e w' ⟨rfl, ⟨nd, rfl⟩⟩; refine ⟨_, rfl, ?_⟩))
   go_ret
   exact ⟨by first | rfl | (simp; done) | (simp [*]; done), by repeat (first | exact Drawn0.refl _ | apply Drawn0.step)⟩
  ·replace c6 := Bool.eq_false_iff.mpr c6
   subst c6
   have H1 : (some (-1)) = some r := by rw [if_neg (show ¬ (false = true) by decide)] at H; exact H
   clear H
   have H := H1
   clear H1
   obtain rfl := Option.some.inj H
   go_enter Tryd.func56, Tryd.ntmps56
   go_wp2_with (first | ((with_reducible refine gate_callee (f := 89) rfl ?_); refine gsL_ (some 8) Tryd.func89 #[.int .i64 a0] ?_; (with_reducible refine (cmp_isNaN_int.calls a0 true _ A3.out).mono ?_); rintro e w' ⟨rfl, ⟨nd, rfl⟩⟩; refine ⟨_, rfl, ?_⟩) | ((with_reducible refine gate_callee (f := 89) rfl ?_); refine gsL_ (some 10) Tryd.func89 #[.int .i64 a1] ?_; (with_reducible refine (cmp_isNaN_int.calls a1 false _ A4.out).mono ?_); rintro e w' ⟨rfl, ⟨nd, rfl⟩⟩; refine ⟨_, rfl, ?_⟩))
   go_ret
   exact ⟨by first | rfl | (simp; done) | (simp [*]; done), by repeat (first | exact Drawn0.refl _ | apply Drawn0.step)⟩
 ·replace c5 := Bool.eq_false_iff.mpr c5
  subst c5
  have H1 : (if t207 = true then (some 1) else (if a0 < a1 then (some (-1)) else (if a0 > a1 then (some 1) else (some 0)))) = some r := by rw [if_neg (show ¬ (false = true) by decide)] at H; exact H
  clear H
  have H := H1
  clear H1
  by_cases c7 : t207 = true
  ·subst c7
   have H1 : (some 1) = some r := by rw [if_pos rfl] at H; exact H
   clear H
   have H := H1
   clear H1
   obtain rfl := Option.some.inj H
   go_enter Tryd.func56, Tryd.ntmps56
   go_wp2_with (first | ((with_reducible refine gate_callee (f := 89) rfl ?_); refine gsL_ (some 8) Tryd.func89 #[.int .i64 a0] ?_; (with_reducible refine (cmp_isNaN_int.calls a0 false _ A3.out).mono ?_); rintro e w' ⟨rfl, ⟨nd, rfl⟩⟩; refine ⟨_, rfl, ?_⟩) | ((with_reducible refine gate_callee (f := 89) rfl ?_); refine gsL_ (some 10) Tryd.func89 #[.int .i64 a1] ?_; (with_reducible refine (cmp_isNaN_int.calls a1 true _ A4.out).mono ?_); rintro e w' ⟨rfl, ⟨nd, rfl⟩⟩; refine ⟨_, rfl, ?_⟩))
   go_ret
   exact ⟨by first | rfl | (simp; done) | (simp [*]; done), by repeat (first | exact Drawn0.refl _ | apply Drawn0.step)⟩
  ·replace c7 := Bool.eq_false_iff.mpr c7
   subst c7
   have H1 : (if a0 < a1 then (some (-1)) else (if a0 > a1 then (some 1) else (some 0))) = some r := by rw [if_neg (show ¬ (false = true) by decide)] at H; exact H
   clear H
   have H := H1
   clear H1
   by_cases c8 : a0 < a1
   ·rw [if_pos c8] at H
    have c8b0 : decide (a0 < a1) = true := decide_eq_true c8
    clear c8
    obtain rfl := Option.some.inj H
    go_enter Tryd.func56, Tryd.ntmps56
    go_wp2_with (first | ((with_reducible refine gate_callee (f := 89) rfl ?_); refine gsL_ (some 8) Tryd.func89 #[.int .i64 a0] ?_; (with_reducible refine (cmp_isNaN_int.calls a0 false _ A3.out).mono ?_); rintro e w' ⟨rfl, ⟨nd, rfl⟩⟩; refine ⟨_, rfl, ?_⟩) | ((with_reducible refine gate_callee (f := 89) rfl ?_); refine gsL_ (some 10) Tryd.func89 #[.int .i64 a1] ?_; (with_reducible refine (cmp_isNaN_int.calls a1 false _ A4.out).mono ?_); rintro e w' ⟨rfl, ⟨nd, rfl⟩⟩; refine ⟨_, rfl, ?_⟩))
    go_ret
    exact ⟨by first | rfl | (simp; done) | (simp [*]; done), by repeat (first | exact Drawn0.refl _ | apply Drawn0.step)⟩
   ·rw [if_neg c8] at H
    have c8b0 : decide (a0 < a1) = false := decide_eq_false c8
    clear c8
    by_cases c9 : a0 > a1
    ·rw [if_pos c9] at H
     have c9b0 : decide (a1 < a0) = true := decide_eq_true c9
     clear c9
     obtain rfl := Option.some.inj H
     go_enter Tryd.func56, Tryd.ntmps56
     go_wp2_with (first | ((with_reducible refine gate_callee (f := 89) rfl ?_); refine gsL_ (some 8) Tryd.func89 #[.int .i64 a0] ?_; (with_reducible refine (cmp_isNaN_int.calls a0 false _ A3.out).mono ?_); rintro e w' ⟨rfl, ⟨nd, rfl⟩⟩; refine ⟨_, rfl, ?_⟩) | ((with_reducible refine gate_callee (f := 89) rfl ?_); refine gsL_ (some 10) Tryd.func89 #[.int .i64 a1] ?_; (with_reducible refine (cmp_isNaN_int.calls a1 false _ A4.out).mono ?_); rintro e w' ⟨rfl, ⟨nd, rfl⟩⟩; refine ⟨_, rfl, ?_⟩))
     go_ret
     exact ⟨by first | rfl | (simp; done) | (simp [*]; done), by repeat (first | exact Drawn0.refl _ | apply Drawn0.step)⟩
    ·rw [if_neg c9] at H
     have c9b0 : decide (a1 < a0) = false := decide_eq_false c9
     clear c9
     obtain rfl := Option.some.inj H
     go_enter Tryd.func56, Tryd.ntmps56
     go_wp2_with (first | ((with_reducible refine gate_callee (f := 89) rfl ?_); refine gsL_ (some 8) Tryd.func89 #[.int .i64 a0] ?_; (with_reducible refine (cmp_isNaN_int.calls a0 false _ A3.out).mono ?_); rintro e w' ⟨rfl, ⟨nd, rfl⟩⟩; refine ⟨_, rfl, ?_⟩) | ((with_reducible refine gate_callee (f := 89) rfl ?_); refine gsL_ (some 10) Tryd.func89 #[.int .i64 a1] ?_; (with_reducible refine (cmp_isNaN_int.calls a1 false _ A4.out).mono ?_); rintro e w' ⟨rfl, ⟨nd, rfl⟩⟩; refine ⟨_, rfl, ?_⟩))
     go_ret
     exact ⟨by first | rfl | (simp; done) | (simp [*]; done), by repeat (first | exact Drawn0.refl _ | apply Drawn0.step)⟩

-- NOT PRINTED: function 119 (bytealg_abigen_runtime_cmpstring)

/-! ### bytealg_CompareString: function 90 -/
-- by hand
def bytealg_CompareString.f (a0 : ByteArray) (a1 : ByteArray) : Option Int := some (Go.Lib.compareBytes a0.data.toList a1.data.toList)
set_option maxRecDepth 100000 in
theorem bytealg_CompareString.calls (a0 : ByteArray) (a1 : ByteArray) (r : Int) (w : World) (h : bytealg_CompareString.f a0 a1 = some r) :
    Calls Tryd.prog 90 #[.string a0, .string a1] w fun e w' => e = .returned (.int .i64 r) ∧ Drawn0 w w' := by
  obtain rfl := Option.some.inj h
  go_enter Tryd.func90, Tryd.ntmps90
  go_wp2
  rw [run_callFunc_extern Tryd.func119 (by kernel_rfl) (by kernel_rfl) (by kernel_rfl) (e := Extern.BytealgCompare.compare) (by kernel_rfl), Go.Lib.run_compareString]
  simp only [Result.andThen]
  rw [Oper.upon_value]
  go_wp2
  go_ret
  exact ⟨rfl, Drawn0.refl _⟩


/-! ### strings_Compare: function 57 -/
def strings_Compare.f (a0 : ByteArray) (a1 : ByteArray) : Option (Int) := (bytealg_CompareString.f a0 a1).bind fun t208 => (some t208)
set_option maxHeartbeats 8000000 in
set_option maxRecDepth 100000 in
theorem strings_Compare.calls (a0 : ByteArray) (a1 : ByteArray) (r : Int) (w : World) (h : strings_Compare.f a0 a1 = some r) :
  Calls Tryd.prog 57 #[.string a0, .string a1] w fun e w' => e = .returned (.int .i64 r) ∧ Drawn0 w w' := by
 have H : ((bytealg_CompareString.f a0 a1).bind fun t208 => (some t208)) = some r := h
 clear h
 replace H := Option.bind_eq_some_iff.mp H
 obtain ⟨t208, A30, H⟩ := H
 replace H : (some t208) = some r := H
 have A3 := Aside0.mk A30
 clear A30
 obtain rfl := Option.some.inj H
 go_enter Tryd.func57, Tryd.ntmps57
 go_wp2_with (first | ((with_reducible refine gate_callee (f := 90) rfl ?_); refine gsL_ (some 7) Tryd.func90 #[.string a0, .string a1] ?_; (with_reducible refine (bytealg_CompareString.calls a0 a1 t208 _ A3.out).mono ?_); rintro e w' ⟨rfl, ⟨nd, rfl⟩⟩; refine ⟨_, rfl, ?_⟩))
 go_ret
 exact ⟨by first | rfl | (simp; done) | (simp [*]; done), by repeat (first | exact Drawn0.refl _ | apply Drawn0.step)⟩

/-! ### impl_CompareValue: function 14 -/
def impl_CompareValue.f (k : Nat) (a0_0 : Int) (a0_1 : Int) (a0_2 : ByteArray) (a1_0 : Int) (a1_1 : Int) (a1_2 : ByteArray) : Option (Int) := (cmp_Compare_int.f a0_0 a1_0).bind fun t211 => ((cmp_Compare_int.f a0_1 a1_1).bind fun t212 => ((strings_Compare.f a0_2 a1_2).bind fun t213 => ((cmp_Or_int.f k (([t211, t212, t213] : List Int))).bind fun t217 => (some t217))))
def impl_CompareValue.T1 : Bool × List (List Nat × List Nat) := (true, [([], []), ([0], [0]), ([], []), ([2], [2]), ([1, 3], [1, 3]), ([], []), ([5], [5]), ([], []), ([7], [7]), ([6, 8, 4], [6, 8]), ([], []), ([10], [10]), ([], []), ([12], [12]), ([11, 13, 9], [11, 13]), ([4, 9, 14], [4, 9, 14]), ([15, 14], [15]), ([16, 16, 0, 1, 2, 3, 4, 5, 6, 7, 8, 9, 10, 11, 12, 13, 14, 15, 16], [16])])
def impl_CompareValue.B1 : List Nat := [0, 1, 0, 4, 15, 0, 32, 0, 128, 511, 0, 1024, 0, 4096, 16383, 32767, 65535, 131071]
theorem impl_CompareValue.tab1 : rtab .any (opsOf Tryd.f14 1) = impl_CompareValue.T1 := by kernel_rfl
theorem impl_CompareValue.bits1 : waitsOk impl_CompareValue.T1.2 impl_CompareValue.B1 = true := by kernel_rfl
set_option maxHeartbeats 8000000 in
set_option maxRecDepth 100000 in
theorem impl_CompareValue.calls (k : Nat) (a0_0 : Int) (a0_1 : Int) (a0_2 : ByteArray) (a1_0 : Int) (a1_1 : Int) (a1_2 : ByteArray) (r : Int) (w : World) (h : impl_CompareValue.f k a0_0 a0_1 a0_2 a1_0 a1_1 a1_2 = some r) :
  Calls Tryd.prog 14 #[.agg #[.int .i64 a0_0, .int .i64 a0_1, .string a0_2], .agg #[.int .i64 a1_0, .int .i64 a1_1, .string a1_2]] w fun e w' => e = .returned (.int .i64 r) ∧ Below w.heap.size w w' := by
 have hu29 := Tryd.underlying29
 have HB := Aside0.mk (Below.refl w.heap.size w)
 have H : ((cmp_Compare_int.f a0_0 a1_0).bind fun t211 => ((cmp_Compare_int.f a0_1 a1_1).bind fun t212 => ((strings_Compare.f a0_2 a1_2).bind fun t213 => ((cmp_Or_int.f k (([t211, t212, t213] : List Int))).bind fun t217 => (some t217))))) = some r := h
 clear h
 replace H := Option.bind_eq_some_iff.mp H
 obtain ⟨t211, A30, H⟩ := H
 replace H : ((cmp_Compare_int.f a0_1 a1_1).bind fun t212 => ((strings_Compare.f a0_2 a1_2).bind fun t213 => ((cmp_Or_int.f k (([t211, t212, t213] : List Int))).bind fun t217 => (some t217)))) = some r := H
 have A3 := Aside0.mk A30
 clear A30
 replace H := Option.bind_eq_some_iff.mp H
 obtain ⟨t212, A40, H⟩ := H
 replace H : ((strings_Compare.f a0_2 a1_2).bind fun t213 => ((cmp_Or_int.f k (([t211, t212, t213] : List Int))).bind fun t217 => (some t217))) = some r := H
 have A4 := Aside0.mk A40
 clear A40
 replace H := Option.bind_eq_some_iff.mp H
 obtain ⟨t213, A50, H⟩ := H
 replace H : ((cmp_Or_int.f k (([t211, t212, t213] : List Int))).bind fun t217 => (some t217)) = some r := H
 have A5 := Aside0.mk A50
 clear A50
 obtain ⟨y214, hy214⟩ : ∃ y_ : List Int, y_ = (([t211, t212, t213] : List Int)) := ⟨_, rfl⟩
 replace H : ((cmp_Or_int.f k y214).bind fun t217 => (some t217)) = some r := by first | (rw [hy214]; with_reducible exact H) | (have H2_ := (Option.bind_some _ _).symm.trans H; rw [hy214]; with_reducible exact H2_) | (have H2_ := (Option.bind_some _ _).symm.trans H; with_reducible exact H2_) | with_reducible exact H | (rw [hy214]; exact H) | exact H
 have Ny214 := Aside0.mk hy214
 clear hy214
 replace H := Option.bind_eq_some_iff.mp H
 obtain ⟨t217, A60, H⟩ := H
 replace H : (some t217) = some r := H
 have A6 := Aside0.mk A60
 clear A60
 obtain rfl := Option.some.inj H
 go_enter Tryd.func14, Tryd.ntmps14
 try go_wp2_with (first | ((with_reducible refine gate_dst (N := 2) rfl ?_); refine bx_ 2 #[.int .i64 a0_0, .int .i64 a0_1, .string a0_2] 29 ?_; intro gb209 hg w7 hbox hb; have BK209 := Aside0.mk (hbox); have GW209 := gw_ hg; have GE209 := gw_ hg; replace HB := bs_ hb; clear hb hbox hg) | ((with_reducible refine gate_dst (N := 3) rfl ?_); refine bx_ 3 #[.int .i64 a1_0, .int .i64 a1_1, .string a1_2] 29 ?_; intro gb210 hg w8 hbox hb; have BK210 := Aside0.mk (hbox); have GW210 := gw_ hg; have GE210 := gw_ hg; have NB209_210 := nl_ hg BK209; have NB210_209 := ng_ hg BK209; replace BK209 := bkb_ BK209 hb; replace HB := bs_ hb; clear hb hbox hg))
 replace BK209 := Aside0.mk (blk_drew BK209.out)
 replace BK210 := Aside0.mk (blk_drew BK210.out)
 replace HB := Aside0.mk (below_drew1 HB.out)
 refine start_ (n := 18) (S := fun w' => w'.cell? ⟨gb209, 0, none⟩ = some (.int .i64 a0_0) ∧ w'.cell? ⟨gb209, 1, none⟩ = some (.int .i64 a0_1) ∧ w'.cell? ⟨gb209, 2, none⟩ = some (.string a0_2) ∧ w'.cell? ⟨gb210, 0, none⟩ = some (.int .i64 a1_0) ∧ w'.cell? ⟨gb210, 1, none⟩ = some (.int .i64 a1_1) ∧ w'.cell? ⟨gb210, 2, none⟩ = some (.string a1_2)) (ds := []) (tf 0 18) (by kernel_rfl) rfl rfl ⟨bc_ BK209 0, bc_ BK209 1, bc_ BK209 2, bc_ BK210 0, bc_ BK210 1, bc_ BK210 2⟩ (fun hHeld => ?_); refine with_tabW impl_CompareValue.tab1 impl_CompareValue.bits1 (fun HT_ HW_ => ?_)
 generalize w8.drew = w9 at BK209 BK210 HB hHeld ⊢
 refine pl_ ?_
 refine plx_ 2 #[true, false, true, false, false, false, false, false, false, false, false, false, false, false, false, false, false, false] ?_
 refine plx_ 5 #[true, false, true, false, false, true, false, false, false, false, false, false, false, false, false, false, false, false] ?_
 refine plx_ 7 #[true, false, true, false, false, true, false, true, false, false, false, false, false, false, false, false, false, false] ?_
 refine plx_ 10 #[true, false, true, false, false, true, false, true, false, false, true, false, false, false, false, false, false, false] ?_
 refine plx_ 12 #[true, false, true, false, false, true, false, true, false, false, true, false, true, false, false, false, false, false] ?_
 refine tlx_ 1 #[true, true, true, false, false, true, false, true, false, false, true, false, true, false, false, false, false, false] ?_
 refine tlx_ 3 #[true, true, true, true, false, true, false, true, false, false, true, false, true, false, false, false, false, false] ?_
 refine tlx_ 6 #[true, true, true, true, false, true, true, true, false, false, true, false, true, false, false, false, false, false] ?_
 refine tlx_ 8 #[true, true, true, true, false, true, true, true, true, false, true, false, true, false, false, false, false, false] ?_
 refine tlx_ 11 #[true, true, true, true, false, true, true, true, true, false, true, true, true, false, false, false, false, false] ?_
 refine tlx_ 13 #[true, true, true, true, false, true, true, true, true, false, true, true, true, true, false, false, false, false] ?_
 refine one_ (i := 4) (N := some 9) #[true, true, true, true, true, true, true, true, true, false, true, true, true, true, false, false, false, false] rfl rfl (one_of HT_.out (by kernel_rfl)) (by decide) (fun K hK => ?_)
 refine gs_ Tryd.func56 #[.int .i64 a0_0, .int .i64 a1_0] ?_
 with_reducible refine (cmp_Compare_int.calls a0_0 a1_0 t211 _ A3.out).mono ?_
 rintro e w' ⟨rfl, ⟨nd, rfl⟩⟩
 refine ⟨_, rfl, ?_⟩
 refine hK.out _ _ ⟨bc_ BK209 0, bc_ BK209 1, bc_ BK209 2, bc_ BK210 0, bc_ BK210 1, bc_ BK210 2⟩ (fun hHeld => ?_)
 clear hK K
 refine nm_ ?_
 refine one_ (i := 9) (N := some 14) (tf 14 4) rfl rfl (one_of HT_.out (by kernel_rfl)) (by decide) (fun K hK => ?_)
 refine gs_ Tryd.func56 #[.int .i64 a0_1, .int .i64 a1_1] ?_
 with_reducible refine (cmp_Compare_int.calls a0_1 a1_1 t212 _ A4.out).mono ?_
 rintro e w' ⟨rfl, ⟨nd, rfl⟩⟩
 refine ⟨_, rfl, ?_⟩
 refine hK.out _ _ ⟨bc_ BK209 0, bc_ BK209 1, bc_ BK209 2, bc_ BK210 0, bc_ BK210 1, bc_ BK210 2⟩ (fun hHeld => ?_)
 clear hK K
 refine nm_ ?_
 refine one_ (i := 14) (N := some 19) (tf 15 3) rfl rfl (one_of HT_.out (by kernel_rfl)) (by decide) (fun K hK => ?_)
 refine gs_ Tryd.func57 #[.string a0_2, .string a1_2] ?_
 with_reducible refine (strings_Compare.calls a0_2 a1_2 t213 _ A5.out).mono ?_
 rintro e w' ⟨rfl, ⟨nd, rfl⟩⟩
 refine ⟨_, rfl, ?_⟩
 refine hK.out _ _ ⟨bc_ BK209 0, bc_ BK209 1, bc_ BK209 2, bc_ BK210 0, bc_ BK210 1, bc_ BK210 2⟩ (fun hHeld => ?_)
 clear hK K
 refine nm_ ?_
 refine one_ (i := 15) (N := some 20) (tf 16 2) rfl rfl (one_of HT_.out (by kernel_rfl)) (by decide) (fun K hK => ?_)
 refine Kd.R_lit_step (Kd.int .i64) _ 3 ?hg (N := 20) ?hd (xs := ([t211, t212, t213] : List Int)) (inner := [.int .i64 t211, .int .i64 t212, .int .i64 t213]) (ok := fun _ => True) (okp := fun _ => True) ?hr ?hp (fun _ hk => hk) trivial (Below.refl _ _) (Nat.le_refl _) (by simp) ?_; (case hd => rfl); (case hg => rfl); (case hr => first | (go_simp; done) | (go_simp; rfl)); (case hp => exact (Reps.one (show Kd.M (Kd.int .i64) _ _ _ t211 [.int .i64 t211] from rfl) (Reps.one (show Kd.M (Kd.int .i64) _ _ _ t212 [.int .i64 t212] from rfl) (Reps.one (show Kd.M (Kd.int .i64) _ _ _ t213 [.int .i64 t213] from rfl) (Reps.none _ _)))))
 intro v215 w10 ho11 hb hg_ hnew_
 clear hg_ hnew_
 (first | rw [← Ny214.out] at ho11 | (simp only [Int.reduceToNat] at ho11; rw [← Ny214.out] at ho11))
 have HO216 := Aside0.mk (Kd.R_lower ho11 (below_size bb_))
 replace BK209 := bkb_ BK209 hb
 replace BK210 := bkb_ BK210 hb
 replace HB := bs_ hb
 clear hb ho11
 obtain ⟨Ao12, co12, eo12⟩ := Kd.R_slice HO216.out
 (first | subst eo12 | (injection eo12 with f1_ f2_ f3_; have f4_ := f1_.symm; have f5_ := f3_.symm; clear f1_ f2_ f3_; subst f4_; subst f5_))
 refine hK.out _ _ ⟨bc_ BK209 0, bc_ BK209 1, bc_ BK209 2, bc_ BK210 0, bc_ BK210 1, bc_ BK210 2⟩ (fun hHeld => ?_)
 clear hK K
 refine nm_ ?_
 refine one_ (i := 16) (N := some 21) (tf 17 1) rfl rfl (one_of HT_.out (by kernel_rfl)) (by decide) (fun K hK => ?_)
 refine gs_ Tryd.func55 #[.slice Ao12 y214.length co12] ?_
 with_reducible refine (cmp_Or_int.calls k _ _ y214 t217 _ ?side1 ?side2 A6.out).mono ?_
 (case side1 => exact ck_ (Kd.R_reads' HO216.out).2.2)
 (case side2 => exact (Kd.R_reads' HO216.out).2.1)
 rintro e w' ⟨rfl, ⟨nd, rfl⟩⟩
 refine ⟨_, rfl, ?_⟩
 refine hK.out _ _ ⟨bc_ BK209 0, bc_ BK209 1, bc_ BK209 2, bc_ BK210 0, bc_ BK210 1, bc_ BK210 2⟩ (fun hHeld => ?_)
 clear hK K
 refine nm_ ?_
 refine plx_ 17 (tf 18 0) ?_
 refine done_ (done_of HT_.out (by kernel_rfl)) ?_
 try go_wp2
 go_ret
 exact ⟨er_, bb_⟩

/-! ### spec_DrawPutValue: function 15 -/
def spec_DrawPutValue.f (k : Nat) (l0 : List Int) : Option (Int × Int × ByteArray) := (spec_l01New.f k l0).bind fun bt219 => ((spec_l01Any.f k bt219.1 bt219.2.1 bt219.2.2).bind fun bt223 => (some (bt223.1, bt223.2.1, bt223.2.2.1)))
set_option maxHeartbeats 8000000 in
set_option maxRecDepth 100000 in
theorem spec_DrawPutValue.calls (k : Nat) (A0 : Option Addr) (c0 : Nat) (l0 : List Int) (r1 : Int) (r2 : Int) (r3 : ByteArray) (w : World) (hr0 : Kd.C (Kd.int .u8) w A0 l0.length l0) (hc0 : l0.length ≤ c0) (h : spec_DrawPutValue.f k l0 = some (r1, r2, r3)) :
  Calls Tryd.prog 15 #[.slice A0 l0.length c0] w fun e w' => e = .returned (.agg #[.int .i64 r1, .int .i64 r2, .string r3]) ∧ Below w.heap.size w w' := by
 have hu29 := Tryd.underlying29
 have HR0 := Aside0.mk hr0
 have HC0 := Aside0.mk hc0
 clear hr0 hc0
 have HB := Aside0.mk (Below.refl w.heap.size w)
 have H : ((spec_l01New.f k l0).bind fun bt219 => ((spec_l01Any.f k bt219.1 bt219.2.1 bt219.2.2).bind fun bt223 => (some (bt223.1, bt223.2.1, bt223.2.2.1)))) = some (r1, r2, r3) := h
 clear h
 replace H := Option.bind_eq_some_iff.mp H
 obtain ⟨⟨t219, t220, t221⟩, A20, H⟩ := H
 replace H : ((spec_l01Any.f k t219 t220 t221).bind fun bt223 => (some (bt223.1, bt223.2.1, bt223.2.2.1))) = some (r1, r2, r3) := H
 have A2 := Aside0.mk A20
 clear A20
 replace H := Option.bind_eq_some_iff.mp H
 obtain ⟨⟨t223, t224, t225, t226, t227⟩, A30, H⟩ := H
 replace H : (some (t223, t224, t225)) = some (r1, r2, r3) := H
 have A3 := Aside0.mk A30
 clear A30
 simp only [Option.some.injEq, Prod.mk.injEq] at H
 obtain ⟨rfl, rfl, rfl⟩ := H
 go_enter Tryd.func15, Tryd.ntmps15
 go_wp2_with (first | ((with_reducible refine gate_dst (N := 2) rfl ?_); refine bx_ 2 #[.int .i64 0, .int .i64 0, .string (⟨#[]⟩ : ByteArray)] 29 ?_; intro gb218 hg w4 hbox hb; have BK218 := Aside0.mk (hbox); have GW218 := gw_ hg; have GE218 := gw_ hg; replace HB := bs_ hb; clear hb hbox hg) | ((with_reducible refine gate_callee (f := 52) rfl ?_); refine gsL_ (some 4) Tryd.func52 #[.slice A0 l0.length c0] ?_; (with_reducible refine (spec_l01New.calls k _ _ l0 t219 t220 t221 w _ ?side1 ?side2 ?side3 A2.out).mono ?_); (case side1 => repeat (first | (with_reducible first | exact HB.out | apply below_alloc | apply pw_below_drewN | apply below_drew1 | refine below_set ?_ GE218.out) | exact HB.out)); (case side2 => exact HR0.out); (case side3 => exact HC0.out); rintro e w5 ⟨g222, rfl, hi, hb, hb2⟩; refine ⟨_, rfl, ?_⟩; have HI222 := Aside0.mk (hi); have NB222_218 := Aside0.mk (IsS127.ne_blk hi (blk_below (g := gb218) (o := .cells #[.int .i64 0, .int .i64 0, .string (⟨#[]⟩ : ByteArray)] 29 (0, 0)) (bkx_ BK218.out) hb2) (by decide)); have NB218_222 := Aside0.mk (Ne.symm (IsS127.ne_blk hi (blk_below (g := gb218) (o := .cells #[.int .i64 0, .int .i64 0, .string (⟨#[]⟩ : ByteArray)] 29 (0, 0)) (bkx_ BK218.out) hb2) (by decide))); replace BK218 := Aside0.mk (blk_below (g := gb218) (o := .cells #[.int .i64 0, .int .i64 0, .string (⟨#[]⟩ : ByteArray)] 29 (0, 0)) (bkx_ BK218.out) hb2); replace HB := Aside0.mk (hb); (try clear hb); (try clear hb2); (try clear hk); (try clear hi)) | ((with_reducible refine gate_callee (f := 53) rfl ?_); refine gsL_ (some 5) Tryd.func53 #[.pointer (some ⟨g222, 0, none⟩)] ?_; (with_reducible refine (spec_l01Any.calls k g222 t219 t220 t221 t223 t224 t225 t226 t227 w _ ?side1 ?side2 A3.out).mono ?_); (case side1 => repeat (first | (with_reducible first | exact HI222.out | apply IsS127.alloc | apply IsS127.drewN | apply IsS127.drew | apply IsS127.set_1 | apply IsS127.set_2 | apply IsS127.far (hne := NB222_218.out)) | exact HI222.out)); (case side2 => repeat (first | (with_reducible first | exact HB.out | apply below_alloc | apply pw_below_drewN | apply below_drew1 | refine below_set ?_ (IsS127.ge HI222.out) | refine below_set ?_ GE218.out) | exact HB.out)); rintro e w6 ⟨rfl, hi, hb, hk⟩; refine ⟨_, rfl, ?_⟩; replace BK218 := Aside0.mk (KeepBut.blk hk (g' := gb218) (o := .cells #[.int .i64 0, .int .i64 0, .string (⟨#[]⟩ : ByteArray)] 29 (0, 0)) (bkx_ BK218.out) NB218_222.out (by simp)); replace HI222 := Aside0.mk (hi); replace HB := Aside0.mk (hb); (try clear hb); (try clear hb2); (try clear hk); (try clear hi); have hnb7 := NB218_222.out; have hnc7 := NB222_218.out; obtain ⟨hcz8_0, hcz8_1, hcz8_2, hfz8_0, hfz8_1, hfz8_2⟩ := b3_ BK218))
 refine bodyPost_ret (results_cell_row rfl _ _ gb218 29 #[.int .i64 t223, .int .i64 t224, .string t225] (0, 0) _ rfl (bp3_ (bkx_ BK218.out)) Tryd.underlying29 rfl (by kernel_rfl)) rfl ?_
 exact ⟨by first | rfl | (simp [errW_none, errW_some] <;> rfl) | (simp [*, errW_none, errW_some] <;> rfl), by repeat (first | (with_reducible first | exact HB.out | apply below_alloc | apply pw_below_drewN | apply below_drew1 | refine below_set ?_ (IsS127.ge HI222.out) | refine below_set ?_ GE218.out) | exact HB.out)⟩

/-! ### impl_within: function 61 -/
def impl_within.f (a0 : Int) (a1 : Int) (a2 : Int) : Option (Bool) := if a1 ≤ a0 then (some (decide (a0 ≤ a2))) else (some false)
set_option maxHeartbeats 8000000 in
set_option maxRecDepth 100000 in
theorem impl_within.calls (a0 : Int) (a1 : Int) (a2 : Int) (r : Bool) (w : World) (h : impl_within.f a0 a1 a2 = some r) :
  Calls Tryd.prog 61 #[.int .i64 a0, .int .i64 a1, .int .i64 a2] w fun e w' => e = .returned (.bool r) ∧ Drawn0 w w' := by
 have H : (if a1 ≤ a0 then (some (decide (a0 ≤ a2))) else (some false)) = some r := h
 clear h
 by_cases c4 : a1 ≤ a0
 ·rw [if_pos c4] at H
  have c4b0 : decide (a1 ≤ a0) = true := decide_eq_true c4
  clear c4
  obtain rfl := Option.some.inj H
  go_enter Tryd.func61, Tryd.ntmps61
  go_wp2
  go_ret
  exact ⟨by first | rfl | (simp; done) | (simp [*]; done), by repeat (first | exact Drawn0.refl _ | apply Drawn0.step)⟩
 ·rw [if_neg c4] at H
  have c4b0 : decide (a1 ≤ a0) = false := decide_eq_false c4
  clear c4
  obtain rfl := Option.some.inj H
  go_enter Tryd.func61, Tryd.ntmps61
  go_wp2
  go_ret
  exact ⟨by first | rfl | (simp; done) | (simp [*]; done), by repeat (first | exact Drawn0.refl _ | apply Drawn0.step)⟩

end Go.Proofs.YthgdmdabdlgliaaDoor.PFnValue
