-- WRITTEN BY xprint.py, a program of this session over the kit's printer: by nobody's hand
-- PRESSED
import Derived.Test.YthgdmdabdlgliaaPress
import Derived.Test.YthgdmdabdlgliaaPFnExactEvalx0
import Derived.Test.YthgdmdabdlgliaaPFnExactEvalx1
import Derived.Test.YthgdmdabdlgliaaPFnExactEvalx8
import Derived.Test.YthgdmdabdlgliaaPFnExactEvalx10
namespace Go.Proofs.Ythgdmdabdlgliaa.PFnExactEval
open Go.RowKit Go.Proofs.YthgdmdabdlgliaaW.PrintWords Go.Proofs.YthgdmdabdlgliaaW.PrintLast Go.Proofs.YthgdmdabdlgliaaW.PrintMore
set_option linter.unusedVariables false
set_option linter.unusedSimpArgs false

attribute [local go_sem high] eqA25
/-! ### impl_decide: function 52 -/
mutual
def impl_decide.j0 : Nat → Bool → Bool → Int → Int → ByteArray → Int → Int → ByteArray → Option (Int × Int × ByteArray)
 | 0, _, _, _, _, _, _, _, _ => none
 | k + 1, x2, x7, x311000, x311001, x311002, x312000, x312001, x312002 => if x7 = true then ((impl_flag.f x2).bind fun bt319 => (some (bt319.1, bt319.2.1, bt319.2.2))) else ((impl_flag.f (!x2)).bind fun bt322 => (if (x311000 == bt322.1 && (x311001 == bt322.2.1 && (x311002.toList == bt322.2.2.toList))) = true then ((impl_flag.f (!x2)).bind fun bt325 => (impl_decide.j1 k x2 (x312000 == bt325.1 && (x312001 == bt325.2.1 && (x312002.toList == bt325.2.2.toList))))) else (impl_decide.j1 k x2 false)))
def impl_decide.j1 : Nat → Bool → Bool → Option (Int × Int × ByteArray)
 | 0, _, _ => none
 | k + 1, x2, x20 => if x20 = true then ((impl_flag.f (!x2)).bind fun bt328 => (some (bt328.1, bt328.2.1, bt328.2.2))) else ((impl_null.f).bind fun bt331 => (some (bt331.1, bt331.2.1, bt331.2.2)))
end
def impl_decide.f (k : Nat) (a0_0 : Int) (a0_1 : Int) (a0_2 : ByteArray) (a1_0 : Int) (a1_1 : Int) (a1_2 : ByteArray) (a2 : Bool) : Option (Int × Int × ByteArray) := (impl_flag.f a2).bind fun bt313 => (if (a0_0 == bt313.1 && (a0_1 == bt313.2.1 && (a0_2.toList == bt313.2.2.toList))) = true then (impl_decide.j0 k a2 true a0_0 a0_1 a0_2 a1_0 a1_1 a1_2) else ((impl_flag.f a2).bind fun bt316 => (impl_decide.j0 k a2 (a1_0 == bt316.1 && (a1_1 == bt316.2.1 && (a1_2.toList == bt316.2.2.toList))) a0_0 a0_1 a0_2 a1_0 a1_1 a1_2)))
def impl_decide.T1 : Bool × List (List Nat × List Nat) := (true, [([], []), ([], []), ([1], [1]), ([0, 2], [0, 2]), ([3, 2], [3]), ([4], [4]), ([4], [4]), ([6, 4, 4], [4, 6]), ([5, 7, 4], [4, 5, 7]), ([4, 8], [4, 8]), ([9, 7], [9])])
def impl_decide.B1 : List Nat := [0, 0, 2, 7, 15, 31, 31, 95, 255, 511, 1023]
theorem impl_decide.tab1 : rtab .any (opsOf Try.f52 1) = impl_decide.T1 := by kernel_rfl
theorem impl_decide.bits1 : waitsOk impl_decide.T1.2 impl_decide.B1 = true := by kernel_rfl
def impl_decide.T3 : Bool × List (List Nat × List Nat) := (true, [([], []), ([], []), ([1], [1]), ([2], [2]), ([0, 3], [0, 3]), ([4, 3], [4]), ([5], [5]), ([5], [5]), ([7, 5], [5, 7]), ([8, 5, 5], [5, 8]), ([6, 9, 5], [5, 6, 9]), ([5, 10], [5, 10]), ([11, 9], [11])])
def impl_decide.B3 : List Nat := [0, 0, 2, 6, 15, 31, 63, 63, 191, 447, 1023, 2047, 4095]
theorem impl_decide.tab3 : rtab .any (opsOf Try.f52 3) = impl_decide.T3 := by kernel_rfl
theorem impl_decide.bits3 : waitsOk impl_decide.T3.2 impl_decide.B3 = true := by kernel_rfl
set_option maxHeartbeats 8000000 in
set_option maxRecDepth 100000 in
theorem impl_decide.calls (k : Nat) (a0_0 : Int) (a0_1 : Int) (a0_2 : ByteArray) (a1_0 : Int) (a1_1 : Int) (a1_2 : ByteArray) (a2 : Bool) (r1 : Int) (r2 : Int) (r3 : ByteArray) (w : World) (h : impl_decide.f k a0_0 a0_1 a0_2 a1_0 a1_1 a1_2 a2 = some (r1, r2, r3)) :
  Calls Try.prog 52 #[.agg #[.int .i64 a0_0, .int .i64 a0_1, .string a0_2], .agg #[.int .i64 a1_0, .int .i64 a1_1, .string a1_2], .bool a2] w fun e w' => e = .returned (.agg #[.int .i64 r1, .int .i64 r2, .string r3]) ∧ Below w.heap.size w w' := by
 have hu25 := Try.underlying25
 have HB := Aside0.mk (Below.refl w.heap.size w)
 have H : ((impl_flag.f a2).bind fun bt313 => (if (a0_0 == bt313.1 && (a0_1 == bt313.2.1 && (a0_2.toList == bt313.2.2.toList))) = true then (impl_decide.j0 k a2 true a0_0 a0_1 a0_2 a1_0 a1_1 a1_2) else ((impl_flag.f a2).bind fun bt316 => (impl_decide.j0 k a2 (a1_0 == bt316.1 && (a1_1 == bt316.2.1 && (a1_2.toList == bt316.2.2.toList))) a0_0 a0_1 a0_2 a1_0 a1_1 a1_2)))) = some (r1, r2, r3) := h
 clear h
 have HC4 := Aside0.mk H
 clear H
 go_enter Try.func52, Try.ntmps52
 go_upto_region 1 with (first | ((with_reducible refine gate_dst (N := 3) rfl ?_); refine bx_ 3 #[.int .i64 a0_0, .int .i64 a0_1, .string a0_2] 25 ?_; intro gb310 hg w5 hbox hb; have BK310 := Aside0.mk (hbox); have GW310 := gw_ hg; have GE310 := gw_ hg; replace HB := bs_ hb; clear hb hbox hg) | ((with_reducible refine gate_dst (N := 4) rfl ?_); refine bx_ 4 #[.int .i64 a1_0, .int .i64 a1_1, .string a1_2] 25 ?_; intro gb311 hg w6 hbox hb; have BK311 := Aside0.mk (hbox); have GW311 := gw_ hg; have GE311 := gw_ hg; have NB310_311 := nl_ hg BK310; have NB311_310 := ng_ hg BK310; replace BK310 := bkb_ BK310 hb; replace HB := bs_ hb; clear hb hbox hg) | ((with_reducible refine gate_dst (N := 6) rfl ?_); refine bx_ 6 #[.int .i64 0, .int .i64 0, .string (⟨#[]⟩ : ByteArray)] 25 ?_; intro gb312 hg w7 hbox hb; have BK312 := Aside0.mk (hbox); have GW312 := gw_ hg; have GE312 := gw_ hg; have NB310_312 := nl_ hg BK310; have NB312_310 := ng_ hg BK310; have NB311_312 := nl_ hg BK311; have NB312_311 := ng_ hg BK311; replace BK310 := bkb_ BK310 hb; replace BK311 := bkb_ BK311 hb; replace HB := bs_ hb; clear hb hbox hg))
 (try simp only [Act.put, List.setIfInBounds_toArray, List.set_cons_zero, List.set_cons_succ])
 go_cut [7] (fun v7 wc => ∃ (kq : Nat) (x7_3 : Bool), v7 = .bool x7_3 ∧ Aside0 (impl_decide.j0 kq a2 x7_3 a0_0 a0_1 a0_2 a1_0 a1_1 a1_2 = some (r1, r2, r3)) ∧ Aside0 (kq ≤ k) ∧ Aside0 (wc.heap[gb310]? = some (.cells #[.int .i64 a0_0, .int .i64 a0_1, .string a0_2] 25 (0, 0))) ∧ Aside0 (wc.heap[gb311]? = some (.cells #[.int .i64 a1_0, .int .i64 a1_1, .string a1_2] 25 (0, 0))) ∧ Aside0 (wc.heap[gb312]? = some (.cells #[.int .i64 0, .int .i64 0, .string (⟨#[]⟩ : ByteArray)] 25 (0, 0))) ∧ Aside0 (Below w.heap.size w wc))
 case first =>
  have H := HC4.out
  clear HC4
  replace H := Option.bind_eq_some_iff.mp H
  obtain ⟨⟨t313, t314, t315⟩, A80, H⟩ := H
  replace H : (if (a0_0 == t313 && (a0_1 == t314 && (a0_2.toList == t315.toList))) = true then (impl_decide.j0 k a2 true a0_0 a0_1 a0_2 a1_0 a1_1 a1_2) else ((impl_flag.f a2).bind fun bt316 => (impl_decide.j0 k a2 (a1_0 == bt316.1 && (a1_1 == bt316.2.1 && (a1_2.toList == bt316.2.2.toList))) a0_0 a0_1 a0_2 a1_0 a1_1 a1_2))) = some (r1, r2, r3) := H
  have A8 := Aside0.mk A80
  clear A80
  by_cases c9 : (a0_0 == t313 && (a0_1 == t314 && (a0_2.toList == t315.toList))) = true
  ·rw [if_pos c9] at H
   have c9b0 : (a0_0 == t313 && (a0_1 == t314 && (a0_2.toList == t315.toList))) = true := c9
   (try (have c9b1 : decide (a0_0 = t313 && (a0_1 == t314 && (a0_2.toList == t315.toList))) = true := by simpa using c9))
   (try (have c9b2 : (a0_0 == t313 && (a0_1 == t314 && (a0_2.toList == t315.toList))) = true := by simpa using c9))
   clear c9
   (first | rw [c9b0] | (simp only [i64_w, i32_w]; rw [c9b0]) | skip)
   have H' := Aside0.mk H
   clear H
   try go_wp2
   replace BK310 := Aside0.mk (blk_drew BK310.out)
   replace BK311 := Aside0.mk (blk_drew BK311.out)
   replace BK312 := Aside0.mk (blk_drew BK312.out)
   replace HB := Aside0.mk (below_drew1 HB.out)
   refine start_ (n := 11) (S := fun w' => w'.cell? ⟨gb310, 0, none⟩ = some (.int .i64 a0_0) ∧ w'.cell? ⟨gb310, 1, none⟩ = some (.int .i64 a0_1) ∧ w'.cell? ⟨gb310, 2, none⟩ = some (.string a0_2)) (ds := []) (tf 0 11) (by kernel_rfl) rfl rfl ⟨bc_ BK310 0, bc_ BK310 1, bc_ BK310 2⟩ (fun hHeld => ?_); refine with_tabW impl_decide.tab1 impl_decide.bits1 (fun HT_ HW_ => ?_)
   generalize w7.drew = w10 at BK310 BK311 BK312 HB hHeld ⊢
   refine plx_ 1 #[false, true, false, false, false, false, false, false, false, false, false] ?_
   refine tlx_ 0 (tf 2 9) ?_
   refine one_ (i := 2) (N := some 10) (tf 3 8) rfl rfl (one_of HT_.out (by kernel_rfl)) (by decide) (fun K hK => ?_)
   refine gs_ Try.func50 #[.bool a2] ?_
   with_reducible refine (impl_flag.calls a2 t313 t314 t315 _ A8.out).mono ?_
   rintro e w11 ⟨rfl, hb⟩
   refine ⟨_, rfl, ?_⟩
   replace BK310 := bkb_ BK310 hb
   replace BK311 := bkb_ BK311 hb
   replace BK312 := bkb_ BK312 hb
   replace HB := bs_ hb
   (try clear hb)
   (try clear hb2)
   (try clear hk)
   (try clear hi)
   refine hK.out _ _ ⟨bc_ BK310 0, bc_ BK310 1, bc_ BK310 2⟩ (fun hHeld => ?_)
   clear hK K
   refine nm_ ?_
   refine plx_ 3 (tf 4 7) ?_
   refine pl_ ?_
   iterate 4 (refine pd_ ?_)
   iterate 2 (refine pl_ ?_)
   refine done_ (done_of HT_.out (by kernel_rfl)) ?_
   try go_wp2
   go_meet
   case rel => exact ⟨_, (true), rs_, H', ⟨by first | omega | exact Nat.le_refl _⟩, ⟨bkx_ BK310.out⟩, ⟨bkx_ BK311.out⟩, ⟨bkx_ BK312.out⟩, ⟨bb_⟩⟩
  ·rw [if_neg c9] at H
   have c9b0 : (a0_0 == t313 && (a0_1 == t314 && (a0_2.toList == t315.toList))) = false := by simpa using c9
   (try (have c9b1 : decide (a0_0 = t313 && (a0_1 == t314 && (a0_2.toList == t315.toList))) = false := by simpa using c9))
   (try (have c9b2 : (a0_0 == t313 && (a0_1 == t314 && (a0_2.toList == t315.toList))) = false := by simpa using c9))
   (try (have c9b3 : ¬ (a0_0 = t313 && (a0_1 == t314 && (a0_2.toList == t315.toList))) := by simpa using c9))
   clear c9
   (first | rw [c9b0] | (simp only [i64_w, i32_w]; rw [c9b0]) | skip)
   replace H := Option.bind_eq_some_iff.mp H
   obtain ⟨⟨t316, t317, t318⟩, A120, H⟩ := H
   replace H : (impl_decide.j0 k a2 (a1_0 == t316 && (a1_1 == t317 && (a1_2.toList == t318.toList))) a0_0 a0_1 a0_2 a1_0 a1_1 a1_2) = some (r1, r2, r3) := H
   have A12 := Aside0.mk A120
   clear A120
   have H' := Aside0.mk H
   clear H
   try go_wp2
   replace BK310 := Aside0.mk (blk_drew BK310.out)
   replace BK311 := Aside0.mk (blk_drew BK311.out)
   replace BK312 := Aside0.mk (blk_drew BK312.out)
   replace HB := Aside0.mk (below_drew1 HB.out)
   refine start_ (n := 11) (S := fun w' => w'.cell? ⟨gb310, 0, none⟩ = some (.int .i64 a0_0) ∧ w'.cell? ⟨gb310, 1, none⟩ = some (.int .i64 a0_1) ∧ w'.cell? ⟨gb310, 2, none⟩ = some (.string a0_2) ∧ w'.cell? ⟨gb311, 0, none⟩ = some (.int .i64 a1_0) ∧ w'.cell? ⟨gb311, 1, none⟩ = some (.int .i64 a1_1) ∧ w'.cell? ⟨gb311, 2, none⟩ = some (.string a1_2)) (ds := []) (tf 0 11) (by kernel_rfl) rfl rfl ⟨bc_ BK310 0, bc_ BK310 1, bc_ BK310 2, bc_ BK311 0, bc_ BK311 1, bc_ BK311 2⟩ (fun hHeld => ?_); refine with_tabW impl_decide.tab1 impl_decide.bits1 (fun HT_ HW_ => ?_)
   generalize w7.drew = w13 at BK310 BK311 BK312 HB hHeld ⊢
   refine plx_ 1 #[false, true, false, false, false, false, false, false, false, false, false] ?_
   refine tlx_ 0 (tf 2 9) ?_
   refine one_ (i := 2) (N := some 10) (tf 3 8) rfl rfl (one_of HT_.out (by kernel_rfl)) (by decide) (fun K hK => ?_)
   refine gs_ Try.func50 #[.bool a2] ?_
   with_reducible refine (impl_flag.calls a2 t313 t314 t315 _ A8.out).mono ?_
   rintro e w14 ⟨rfl, hb⟩
   refine ⟨_, rfl, ?_⟩
   replace BK310 := bkb_ BK310 hb
   replace BK311 := bkb_ BK311 hb
   replace BK312 := bkb_ BK312 hb
   replace HB := bs_ hb
   (try clear hb)
   (try clear hb2)
   (try clear hk)
   (try clear hi)
   refine hK.out _ _ ⟨bc_ BK310 0, bc_ BK310 1, bc_ BK310 2, bc_ BK311 0, bc_ BK311 1, bc_ BK311 2⟩ (fun hHeld => ?_)
   clear hK K
   refine nm_ ?_
   refine plx_ 3 (tf 4 7) ?_
   refine pl_ ?_
   refine plx_ 6 #[true, true, true, true, true, false, true, false, false, false, false] ?_
   refine tlx_ 5 (tf 7 4) ?_
   refine one_ (i := 7) (N := some 15) (tf 8 3) rfl rfl (one_of HT_.out (by kernel_rfl)) (by decide) (fun K hK => ?_)
   refine gs_ Try.func50 #[.bool a2] ?_
   with_reducible refine (impl_flag.calls a2 t316 t317 t318 _ A12.out).mono ?_
   rintro e w15 ⟨rfl, hb⟩
   refine ⟨_, rfl, ?_⟩
   replace BK310 := bkb_ BK310 hb
   replace BK311 := bkb_ BK311 hb
   replace BK312 := bkb_ BK312 hb
   replace HB := bs_ hb
   (try clear hb)
   (try clear hb2)
   (try clear hk)
   (try clear hi)
   refine hK.out _ _ ⟨bc_ BK310 0, bc_ BK310 1, bc_ BK310 2, bc_ BK311 0, bc_ BK311 1, bc_ BK311 2⟩ (fun hHeld => ?_)
   clear hK K
   refine nm_ ?_
   refine plx_ 8 (tf 9 2) ?_
   iterate 2 (refine pl_ ?_)
   refine done_ (done_of HT_.out (by kernel_rfl)) ?_
   try go_wp2
   go_meet
   case rel => exact ⟨_, ((a1_0 == t316 && (a1_1 == t317 && (a1_2.toList == t318.toList)))), rs_, H', ⟨by first | omega | exact Nat.le_refl _⟩, ⟨bkx_ BK310.out⟩, ⟨bkx_ BK311.out⟩, ⟨bkx_ BK312.out⟩, ⟨bb_⟩⟩
 case rest =>
  clear HC4
  try clear p2
  try clear c5
  try clear c9
  try clear c9b0
  try clear c9b1
  try clear c9b2
  obtain ⟨kq, x7_3, rfl, HA, HJ3, BK310, BK311, BK312, HB⟩ := hcut
  cases kq with
  | zero => exact absurd HA.out (by simp [impl_decide.j0])
  | succ kj3 =>
   have H := HA.out
   clear HA
   simp only [impl_decide.j0] at H
   by_cases c16 : x7_3 = true
   ·subst c16
    have H1 : ((impl_flag.f a2).bind fun bt319 => (some (bt319.1, bt319.2.1, bt319.2.2))) = some (r1, r2, r3) := by rw [if_pos rfl] at H; exact H
    clear H
    have H := H1
    clear H1
    replace H := Option.bind_eq_some_iff.mp H
    obtain ⟨⟨t319, t320, t321⟩, A170, H⟩ := H
    replace H : (some (t319, t320, t321)) = some (r1, r2, r3) := H
    have A17 := Aside0.mk A170
    clear A170
    simp only [Option.some.injEq, Prod.mk.injEq] at H
    obtain ⟨rfl, rfl, rfl⟩ := H
    go_wp2_with (first | ((with_reducible refine gate_callee (f := 50) rfl ?_); refine gsL_ (some 19) Try.func50 #[.bool a2] ?_; (with_reducible refine (impl_flag.calls a2 t319 t320 t321 _ A17.out).mono ?_); rintro e w18 ⟨rfl, hb⟩; refine ⟨_, rfl, ?_⟩; replace BK310 := bkb_ BK310 hb; replace BK311 := bkb_ BK311 hb; replace BK312 := bkb_ BK312 hb; replace HB := bs_ hb; (try clear hb); (try clear hb2); (try clear hk); (try clear hi); have hnb19 := NB312_310.out; have hnc19 := NB310_312.out; have hnb20 := NB312_311.out; have hnc20 := NB311_312.out; obtain ⟨hcz21_0, hcz21_1, hcz21_2, hfz21_0, hfz21_1, hfz21_2⟩ := b3_ BK312))
    refine bodyPost_ret (results_cell_row rfl _ _ gb312 25 #[.int .i64 t319, .int .i64 t320, .string t321] (0, 0) _ rfl (bp3_ (bkx_ BK312.out)) Try.underlying25 rfl (by kernel_rfl)) rfl ?_
    exact ⟨er_, bb_⟩
   ·replace c16 := Bool.eq_false_iff.mpr c16
    subst c16
    have H1 : ((impl_flag.f (!a2)).bind fun bt322 => (if (a0_0 == bt322.1 && (a0_1 == bt322.2.1 && (a0_2.toList == bt322.2.2.toList))) = true then ((impl_flag.f (!a2)).bind fun bt325 => (impl_decide.j1 kj3 a2 (a1_0 == bt325.1 && (a1_1 == bt325.2.1 && (a1_2.toList == bt325.2.2.toList))))) else (impl_decide.j1 kj3 a2 false))) = some (r1, r2, r3) := by rw [if_neg (show ¬ (false = true) by decide)] at H; exact H
    clear H
    have H := H1
    clear H1
    have HC22 := Aside0.mk H
    clear H
    go_upto_region 3 with (fail)
    go_cut [20] (fun v20 wc => ∃ (kq : Nat) (x20_21 : Bool), v20 = .bool x20_21 ∧ Aside0 (impl_decide.j1 kq a2 x20_21 = some (r1, r2, r3)) ∧ Aside0 (kq ≤ kj3) ∧ Aside0 (wc.heap[gb310]? = some (.cells #[.int .i64 a0_0, .int .i64 a0_1, .string a0_2] 25 (0, 0))) ∧ Aside0 (wc.heap[gb311]? = some (.cells #[.int .i64 a1_0, .int .i64 a1_1, .string a1_2] 25 (0, 0))) ∧ Aside0 (wc.heap[gb312]? = some (.cells #[.int .i64 0, .int .i64 0, .string (⟨#[]⟩ : ByteArray)] 25 (0, 0))) ∧ Aside0 (Below w.heap.size w wc))
    case first =>
     have H := HC22.out
     clear HC22
     replace H := Option.bind_eq_some_iff.mp H
     obtain ⟨⟨t322, t323, t324⟩, A230, H⟩ := H
     replace H : (if (a0_0 == t322 && (a0_1 == t323 && (a0_2.toList == t324.toList))) = true then ((impl_flag.f (!a2)).bind fun bt325 => (impl_decide.j1 kj3 a2 (a1_0 == bt325.1 && (a1_1 == bt325.2.1 && (a1_2.toList == bt325.2.2.toList))))) else (impl_decide.j1 kj3 a2 false)) = some (r1, r2, r3) := H
     have A23 := Aside0.mk A230
     clear A230
     by_cases c24 : (a0_0 == t322 && (a0_1 == t323 && (a0_2.toList == t324.toList))) = true
     ·rw [if_pos c24] at H
      have c24b0 : (a0_0 == t322 && (a0_1 == t323 && (a0_2.toList == t324.toList))) = true := c24
      (try (have c24b1 : decide (a0_0 = t322 && (a0_1 == t323 && (a0_2.toList == t324.toList))) = true := by simpa using c24))
      (try (have c24b2 : (a0_0 == t322 && (a0_1 == t323 && (a0_2.toList == t324.toList))) = true := by simpa using c24))
      clear c24
      (first | rw [c24b0] | (simp only [i64_w, i32_w]; rw [c24b0]) | skip)
      replace H := Option.bind_eq_some_iff.mp H
      obtain ⟨⟨t325, t326, t327⟩, A250, H⟩ := H
      replace H : (impl_decide.j1 kj3 a2 (a1_0 == t325 && (a1_1 == t326 && (a1_2.toList == t327.toList)))) = some (r1, r2, r3) := H
      have A25 := Aside0.mk A250
      clear A250
      have H' := Aside0.mk H
      clear H
      try go_wp2
      replace BK310 := Aside0.mk (blk_drew BK310.out)
      replace BK311 := Aside0.mk (blk_drew BK311.out)
      replace BK312 := Aside0.mk (blk_drew BK312.out)
      replace HB := Aside0.mk (below_drew1 HB.out)
      refine start_ (n := 13) (S := fun w' => w'.cell? ⟨gb310, 0, none⟩ = some (.int .i64 a0_0) ∧ w'.cell? ⟨gb310, 1, none⟩ = some (.int .i64 a0_1) ∧ w'.cell? ⟨gb310, 2, none⟩ = some (.string a0_2) ∧ w'.cell? ⟨gb311, 0, none⟩ = some (.int .i64 a1_0) ∧ w'.cell? ⟨gb311, 1, none⟩ = some (.int .i64 a1_1) ∧ w'.cell? ⟨gb311, 2, none⟩ = some (.string a1_2)) (ds := []) (tf 0 13) (by kernel_rfl) rfl rfl ⟨bc_ BK310 0, bc_ BK310 1, bc_ BK310 2, bc_ BK311 0, bc_ BK311 1, bc_ BK311 2⟩ (fun hHeld => ?_); refine with_tabW impl_decide.tab3 impl_decide.bits3 (fun HT_ HW_ => ?_)
      generalize wc.drew = w26 at BK310 BK311 BK312 HB hHeld ⊢
      refine plx_ 1 #[false, true, false, false, false, false, false, false, false, false, false, false, false] ?_
      refine plx_ 2 #[false, true, true, false, false, false, false, false, false, false, false, false, false] ?_
      refine tlx_ 0 (tf 3 10) ?_
      refine one_ (i := 3) (N := some 24) (tf 4 9) rfl rfl (one_of HT_.out (by kernel_rfl)) (by decide) (fun K hK => ?_)
      refine gs_ Try.func50 #[.bool (!a2)] ?_
      with_reducible refine (impl_flag.calls (!a2) t322 t323 t324 _ A23.out).mono ?_
      rintro e w27 ⟨rfl, hb⟩
      refine ⟨_, rfl, ?_⟩
      replace BK310 := bkb_ BK310 hb
      replace BK311 := bkb_ BK311 hb
      replace BK312 := bkb_ BK312 hb
      replace HB := bs_ hb
      (try clear hb)
      (try clear hb2)
      (try clear hk)
      (try clear hi)
      refine hK.out _ _ ⟨bc_ BK310 0, bc_ BK310 1, bc_ BK310 2, bc_ BK311 0, bc_ BK311 1, bc_ BK311 2⟩ (fun hHeld => ?_)
      clear hK K
      refine nm_ ?_
      refine plx_ 4 (tf 5 8) ?_
      refine pl_ ?_
      refine plx_ 7 #[true, true, true, true, true, true, false, true, false, false, false, false, false] ?_
      refine plx_ 8 #[true, true, true, true, true, true, false, true, true, false, false, false, false] ?_
      refine tlx_ 6 (tf 9 4) ?_
      refine one_ (i := 9) (N := some 30) (tf 10 3) rfl rfl (one_of HT_.out (by kernel_rfl)) (by decide) (fun K hK => ?_)
      refine gs_ Try.func50 #[.bool (!a2)] ?_
      with_reducible refine (impl_flag.calls (!a2) t325 t326 t327 _ A25.out).mono ?_
      rintro e w28 ⟨rfl, hb⟩
      refine ⟨_, rfl, ?_⟩
      replace BK310 := bkb_ BK310 hb
      replace BK311 := bkb_ BK311 hb
      replace BK312 := bkb_ BK312 hb
      replace HB := bs_ hb
      (try clear hb)
      (try clear hb2)
      (try clear hk)
      (try clear hi)
      refine hK.out _ _ ⟨bc_ BK310 0, bc_ BK310 1, bc_ BK310 2, bc_ BK311 0, bc_ BK311 1, bc_ BK311 2⟩ (fun hHeld => ?_)
      clear hK K
      refine nm_ ?_
      refine plx_ 10 (tf 11 2) ?_
      iterate 2 (refine pl_ ?_)
      refine done_ (done_of HT_.out (by kernel_rfl)) ?_
      try go_wp2
      go_meet
      case rel => exact ⟨_, ((a1_0 == t325 && (a1_1 == t326 && (a1_2.toList == t327.toList)))), rs_, H', ⟨by have := HJ3.out; first | omega | exact Nat.le_refl _⟩, ⟨bkx_ BK310.out⟩, ⟨bkx_ BK311.out⟩, ⟨bkx_ BK312.out⟩, ⟨bb_⟩⟩
     ·rw [if_neg c24] at H
      have c24b0 : (a0_0 == t322 && (a0_1 == t323 && (a0_2.toList == t324.toList))) = false := by simpa using c24
      (try (have c24b1 : decide (a0_0 = t322 && (a0_1 == t323 && (a0_2.toList == t324.toList))) = false := by simpa using c24))
      (try (have c24b2 : (a0_0 == t322 && (a0_1 == t323 && (a0_2.toList == t324.toList))) = false := by simpa using c24))
      (try (have c24b3 : ¬ (a0_0 = t322 && (a0_1 == t323 && (a0_2.toList == t324.toList))) := by simpa using c24))
      clear c24
      (first | rw [c24b0] | (simp only [i64_w, i32_w]; rw [c24b0]) | skip)
      have H' := Aside0.mk H
      clear H
      try go_wp2
      replace BK310 := Aside0.mk (blk_drew BK310.out)
      replace BK311 := Aside0.mk (blk_drew BK311.out)
      replace BK312 := Aside0.mk (blk_drew BK312.out)
      replace HB := Aside0.mk (below_drew1 HB.out)
      refine start_ (n := 13) (S := fun w' => w'.cell? ⟨gb310, 0, none⟩ = some (.int .i64 a0_0) ∧ w'.cell? ⟨gb310, 1, none⟩ = some (.int .i64 a0_1) ∧ w'.cell? ⟨gb310, 2, none⟩ = some (.string a0_2)) (ds := []) (tf 0 13) (by kernel_rfl) rfl rfl ⟨bc_ BK310 0, bc_ BK310 1, bc_ BK310 2⟩ (fun hHeld => ?_); refine with_tabW impl_decide.tab3 impl_decide.bits3 (fun HT_ HW_ => ?_)
      generalize wc.drew = w29 at BK310 BK311 BK312 HB hHeld ⊢
      refine plx_ 1 #[false, true, false, false, false, false, false, false, false, false, false, false, false] ?_
      refine plx_ 2 #[false, true, true, false, false, false, false, false, false, false, false, false, false] ?_
      refine tlx_ 0 (tf 3 10) ?_
      refine one_ (i := 3) (N := some 24) (tf 4 9) rfl rfl (one_of HT_.out (by kernel_rfl)) (by decide) (fun K hK => ?_)
      refine gs_ Try.func50 #[.bool (!a2)] ?_
      with_reducible refine (impl_flag.calls (!a2) t322 t323 t324 _ A23.out).mono ?_
      rintro e w30 ⟨rfl, hb⟩
      refine ⟨_, rfl, ?_⟩
      replace BK310 := bkb_ BK310 hb
      replace BK311 := bkb_ BK311 hb
      replace BK312 := bkb_ BK312 hb
      replace HB := bs_ hb
      (try clear hb)
      (try clear hb2)
      (try clear hk)
      (try clear hi)
      refine hK.out _ _ ⟨bc_ BK310 0, bc_ BK310 1, bc_ BK310 2⟩ (fun hHeld => ?_)
      clear hK K
      refine nm_ ?_
      refine plx_ 4 (tf 5 8) ?_
      refine pl_ ?_
      iterate 5 (refine pd_ ?_)
      iterate 2 (refine pl_ ?_)
      refine done_ (done_of HT_.out (by kernel_rfl)) ?_
      try go_wp2
      go_meet
      case rel => exact ⟨_, (false), rs_, H', ⟨by have := HJ3.out; first | omega | exact Nat.le_refl _⟩, ⟨bkx_ BK310.out⟩, ⟨bkx_ BK311.out⟩, ⟨bkx_ BK312.out⟩, ⟨bb_⟩⟩
    case rest =>
     clear HC22
     try clear c1
     try clear c2
     try clear p2
     try clear c5
     try clear c9
     try clear c9b0
     try clear c9b1
     try clear c9b2
     try clear c16
     try clear c19
     try clear c20
     try clear c24
     try clear c24b0
     try clear c24b1
     try clear c24b2
     try clear hcz21_0
     try clear hcz21_1
     try clear hcz21_2
     try clear hfz21_0
     try clear hfz21_1
     try clear hfz21_2
     try clear p2
     obtain ⟨kq, x20_21, rfl, HA, HJ21, BK310, BK311, BK312, HB⟩ := hcut
     cases kq with
     | zero => exact absurd HA.out (by simp [impl_decide.j1])
     | succ kj21 =>
      have H := HA.out
      clear HA
      simp only [impl_decide.j1] at H
      by_cases c31 : x20_21 = true
      ·subst c31
       have H1 : ((impl_flag.f (!a2)).bind fun bt328 => (some (bt328.1, bt328.2.1, bt328.2.2))) = some (r1, r2, r3) := by rw [if_pos rfl] at H; exact H
       clear H
       have H := H1
       clear H1
       replace H := Option.bind_eq_some_iff.mp H
       obtain ⟨⟨t328, t329, t330⟩, A320, H⟩ := H
       replace H : (some (t328, t329, t330)) = some (r1, r2, r3) := H
       have A32 := Aside0.mk A320
       clear A320
       simp only [Option.some.injEq, Prod.mk.injEq] at H
       obtain ⟨rfl, rfl, rfl⟩ := H
       go_wp2_with (first | ((with_reducible refine gate_callee (f := 50) rfl ?_); refine gsL_ (some 35) Try.func50 #[.bool (!a2)] ?_; (with_reducible refine (impl_flag.calls (!a2) t328 t329 t330 _ A32.out).mono ?_); rintro e w33 ⟨rfl, hb⟩; refine ⟨_, rfl, ?_⟩; replace BK310 := bkb_ BK310 hb; replace BK311 := bkb_ BK311 hb; replace BK312 := bkb_ BK312 hb; replace HB := bs_ hb; (try clear hb); (try clear hb2); (try clear hk); (try clear hi); have hnb34 := NB312_310.out; have hnc34 := NB310_312.out; have hnb35 := NB312_311.out; have hnc35 := NB311_312.out; obtain ⟨hcz36_0, hcz36_1, hcz36_2, hfz36_0, hfz36_1, hfz36_2⟩ := b3_ BK312))
       refine bodyPost_ret (results_cell_row rfl _ _ gb312 25 #[.int .i64 t328, .int .i64 t329, .string t330] (0, 0) _ rfl (bp3_ (bkx_ BK312.out)) Try.underlying25 rfl (by kernel_rfl)) rfl ?_
       exact ⟨er_, bb_⟩
      ·replace c31 := Bool.eq_false_iff.mpr c31
       subst c31
       have H1 : ((impl_null.f).bind fun bt331 => (some (bt331.1, bt331.2.1, bt331.2.2))) = some (r1, r2, r3) := by rw [if_neg (show ¬ (false = true) by decide)] at H; exact H
       clear H
       have H := H1
       clear H1
       replace H := Option.bind_eq_some_iff.mp H
       obtain ⟨⟨t331, t332, t333⟩, A370, H⟩ := H
       replace H : (some (t331, t332, t333)) = some (r1, r2, r3) := H
       have A37 := Aside0.mk A370
       clear A370
       simp only [Option.some.injEq, Prod.mk.injEq] at H
       obtain ⟨rfl, rfl, rfl⟩ := H
       go_wp2_with (first | ((with_reducible refine gate_callee (f := 46) rfl ?_); refine gsL_ (some 36) Try.func46 #[] ?_; (with_reducible refine (impl_null.calls  t331 t332 t333 _ A37.out).mono ?_); rintro e w38 ⟨rfl, hb⟩; refine ⟨_, rfl, ?_⟩; replace BK310 := bkb_ BK310 hb; replace BK311 := bkb_ BK311 hb; replace BK312 := bkb_ BK312 hb; replace HB := bs_ hb; (try clear hb); (try clear hb2); (try clear hk); (try clear hi); have hnb39 := NB312_310.out; have hnc39 := NB310_312.out; have hnb40 := NB312_311.out; have hnc40 := NB311_312.out; obtain ⟨hcz41_0, hcz41_1, hcz41_2, hfz41_0, hfz41_1, hfz41_2⟩ := b3_ BK312))
       refine bodyPost_ret (results_cell_row rfl _ _ gb312 25 #[.int .i64 t331, .int .i64 t332, .string t333] (0, 0) _ rfl (bp3_ (bkx_ BK312.out)) Try.underlying25 rfl (by kernel_rfl)) rfl ?_
       exact ⟨er_, bb_⟩

end Go.Proofs.Ythgdmdabdlgliaa.PFnExactEval
