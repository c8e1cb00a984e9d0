-- WRITTEN BY xprint.py, a program of this session over the kit's printer: by nobody's hand
-- PRESSED TWICE
import Derived.Test.YthgdmdabdlgliaaPress
import Derived.Test.YthgdmdabdlgliaaPFnReckonx0
import Derived.Test.YthgdmdabdlgliaaPFnReckonx1
import Derived.Test.YthgdmdabdlgliaaPFnReckonx2
namespace Go.Proofs.Ythgdmdabdlgliaa.PFnReckon
open Go.RowKit Go.Proofs.YthgdmdabdlgliaaW.PrintWords Go.Proofs.YthgdmdabdlgliaaW.PrintLast Go.Proofs.YthgdmdabdlgliaaW.PrintMore
set_option linter.unusedVariables false
set_option linter.unusedSimpArgs false
attribute [local go_sem] leq_str geq_str

attribute [local go_sem high] eqA25
/-! ### spec_DrawNot: function 10 -/
def spec_DrawNot.f (k : Nat) (l0 : List Int) : Option (Int × Int × ByteArray) := (spec_l01New.f k l0).bind fun bt298 => ((spec_l01Any.f k bt298.1 bt298.2.1 bt298.2.2).bind fun bt302 => (some (bt302.1, bt302.2.1, bt302.2.2.1)))
set_option maxHeartbeats 8000000 in
set_option maxRecDepth 100000 in
theorem spec_DrawNot.calls (k : Nat) (A0 : Option Addr) (c0 : Nat) (l0 : List Int) (r1 : Int) (r2 : Int) (r3 : ByteArray) (w : World) (hr0 : Kd.C (Kd.int .u8) w A0 l0.length l0) (hc0 : l0.length ≤ c0) (h : spec_DrawNot.f k l0 = some (r1, r2, r3)) :
  Calls Try.prog 10 #[.slice A0 l0.length c0] w fun e w' => e = .returned (.agg #[.int .i64 r1, .int .i64 r2, .string r3]) ∧ Below w.heap.size w w' := by
 have hu25 := Try.underlying25
 have HR0 := Aside0.mk hr0
 have HC0 := Aside0.mk hc0
 clear hr0 hc0
 have HB := Aside0.mk (Below.refl w.heap.size w)
 have H : ((spec_l01New.f k l0).bind fun bt298 => ((spec_l01Any.f k bt298.1 bt298.2.1 bt298.2.2).bind fun bt302 => (some (bt302.1, bt302.2.1, bt302.2.2.1)))) = some (r1, r2, r3) := h
 clear h
 replace H := Option.bind_eq_some_iff.mp H
 obtain ⟨⟨t298, t299, t300⟩, A20, H⟩ := H
 replace H : ((spec_l01Any.f k t298 t299 t300).bind fun bt302 => (some (bt302.1, bt302.2.1, bt302.2.2.1))) = some (r1, r2, r3) := H
 have A2 := Aside0.mk A20
 clear A20
 replace H := Option.bind_eq_some_iff.mp H
 obtain ⟨⟨t302, t303, t304, t305, t306⟩, A30, H⟩ := H
 replace H : (some (t302, t303, t304)) = some (r1, r2, r3) := H
 have A3 := Aside0.mk A30
 clear A30
 simp only [Option.some.injEq, Prod.mk.injEq] at H
 obtain ⟨rfl, rfl, rfl⟩ := H
 go_enter Try.func10, Try.ntmps10
 go_wp2_with (first | ((with_reducible refine gate_dst (N := 2) rfl ?_); refine bx_ 2 #[.int .i64 0, .int .i64 0, .string (⟨#[]⟩ : ByteArray)] 25 ?_; intro gb297 hg w4 hbox hb; have BK297 := Aside0.mk (hbox); have GW297 := gw_ hg; have GE297 := gw_ hg; replace HB := bs_ hb; clear hb hbox hg) | ((with_reducible refine gate_callee (f := 43) rfl ?_); refine gsL_ (some 4) Try.func43 #[.slice A0 l0.length c0] ?_; (with_reducible refine (spec_l01New.calls k _ _ l0 t298 t299 t300 w _ ?side1 ?side2 ?side3 A2.out).mono ?_); (case side1 => repeat (first | (with_reducible first | exact HB.out | apply below_alloc | apply pw_below_drewN | apply below_drew1 | refine below_set ?_ GE297.out) | exact HB.out)); (case side2 => exact HR0.out); (case side3 => exact HC0.out); rintro e w5 ⟨g301, rfl, hi, hb, hb2⟩; refine ⟨_, rfl, ?_⟩; have HI301 := Aside0.mk (hi); have NB301_297 := Aside0.mk (IsS121.ne_blk hi (blk_below (g := gb297) (o := .cells #[.int .i64 0, .int .i64 0, .string (⟨#[]⟩ : ByteArray)] 25 (0, 0)) (bkx_ BK297.out) hb2) (by decide)); have NB297_301 := Aside0.mk (Ne.symm (IsS121.ne_blk hi (blk_below (g := gb297) (o := .cells #[.int .i64 0, .int .i64 0, .string (⟨#[]⟩ : ByteArray)] 25 (0, 0)) (bkx_ BK297.out) hb2) (by decide))); replace BK297 := Aside0.mk (blk_below (g := gb297) (o := .cells #[.int .i64 0, .int .i64 0, .string (⟨#[]⟩ : ByteArray)] 25 (0, 0)) (bkx_ BK297.out) hb2); replace HB := Aside0.mk (hb); (try clear hb)) | ((with_reducible refine gate_callee (f := 45) rfl ?_); refine gsL_ (some 5) Try.func45 #[.pointer (some ⟨g301, 0, none⟩)] ?_; (with_reducible refine (spec_l01Any.calls k g301 t298 t299 t300 t302 t303 t304 t305 t306 w _ ?side1 ?side2 A3.out).mono ?_); (case side1 => repeat (first | (with_reducible first | exact HI301.out | apply IsS121.alloc | apply IsS121.drewN | apply IsS121.drew | apply IsS121.set_1 | apply IsS121.set_2 | apply IsS121.far (hne := NB301_297.out)) | exact HI301.out)); (case side2 => repeat (first | (with_reducible first | exact HB.out | apply below_alloc | apply pw_below_drewN | apply below_drew1 | refine below_set ?_ (IsS121.ge HI301.out) | refine below_set ?_ GE297.out) | exact HB.out)); rintro e w6 ⟨rfl, hi, hb, hk⟩; refine ⟨_, rfl, ?_⟩; replace BK297 := Aside0.mk (KeepBut.blk hk (g' := gb297) (o := .cells #[.int .i64 0, .int .i64 0, .string (⟨#[]⟩ : ByteArray)] 25 (0, 0)) (bkx_ BK297.out) NB297_301.out (by simp)); replace HI301 := Aside0.mk (hi); replace HB := Aside0.mk (hb); (try clear hb); have hnb7 := NB297_301.out; have hnc7 := NB301_297.out; obtain ⟨hcz8_0, hcz8_1, hcz8_2, hfz8_0, hfz8_1, hfz8_2⟩ := b3_ BK297))
 refine bodyPost_ret (results_cell_row rfl _ _ gb297 25 #[.int .i64 t302, .int .i64 t303, .string t304] (0, 0) _ rfl (bp3_ (bkx_ BK297.out)) Try.underlying25 rfl (by kernel_rfl)) rfl ?_
 exact ⟨by first | rfl | (simp [errW_none, errW_some] <;> rfl) | (simp [*, errW_none, errW_some] <;> rfl), by repeat (first | (with_reducible first | exact HB.out | apply below_alloc | apply pw_below_drewN | apply below_drew1 | refine below_set ?_ (IsS121.ge HI301.out) | refine below_set ?_ GE297.out) | exact HB.out)⟩

/-! ### spec_l01Logic: function 53 -/
def spec_l01Logic.j0 : Nat → Bool → Int → Int → ByteArray → Int → Int → ByteArray → Int → Int → ByteArray → Int → Int → ByteArray → Option (Int × Int × ByteArray)
 | 0, _, _, _, _, _, _, _, _, _, _, _, _, _ => none
 | k + 1, x15, x308000, x308001, x308002, x309000, x309001, x309002, x317000, x317001, x317002, x318000, x318001, x318002 => if x15 = true then (some (x317000, x317001, x317002)) else (if (x308000 == x318000 && (x308001 == x318001 && (x308002.toList == x318002.toList))) = true then (if (x309000 == x318000 && (x309001 == x318001 && (x309002.toList == x318002.toList))) = true then (some (x318000, x318001, x318002)) else (some (0, 0, (⟨#[]⟩ : ByteArray)))) else (some (0, 0, (⟨#[]⟩ : ByteArray))))
def spec_l01Logic.f (k : Nat) (a0 : ByteArray) (a1_0 : Int) (a1_1 : Int) (a1_2 : ByteArray) (a2_0 : Int) (a2_1 : Int) (a2_2 : ByteArray) : Option (Int × Int × ByteArray) := (spec_l01Bool.f (a0.toList == ([111, 114] : List UInt8))).bind fun bt310 => ((spec_l01Bool.f (a0.toList != ([111, 114] : List UInt8))).bind fun bt313 => (if (a1_0 == bt310.1 && (a1_1 == bt310.2.1 && (a1_2.toList == bt310.2.2.toList))) = true then (spec_l01Logic.j0 k true a1_0 a1_1 a1_2 a2_0 a2_1 a2_2 bt310.1 bt310.2.1 bt310.2.2 bt313.1 bt313.2.1 bt313.2.2) else (spec_l01Logic.j0 k (a2_0 == bt310.1 && (a2_1 == bt310.2.1 && (a2_2.toList == bt310.2.2.toList))) a1_0 a1_1 a1_2 a2_0 a2_1 a2_2 bt310.1 bt310.2.1 bt310.2.2 bt313.1 bt313.2.1 bt313.2.2)))
set_option maxHeartbeats 8000000 in
set_option maxRecDepth 100000 in
theorem spec_l01Logic.calls (k : Nat) (a0 : ByteArray) (a1_0 : Int) (a1_1 : Int) (a1_2 : ByteArray) (a2_0 : Int) (a2_1 : Int) (a2_2 : ByteArray) (r1 : Int) (r2 : Int) (r3 : ByteArray) (w : World) (h : spec_l01Logic.f k a0 a1_0 a1_1 a1_2 a2_0 a2_1 a2_2 = some (r1, r2, r3)) :
  Calls Try.prog 53 #[.string a0, .agg #[.int .i64 a1_0, .int .i64 a1_1, .string a1_2], .agg #[.int .i64 a2_0, .int .i64 a2_1, .string a2_2]] w fun e w' => e = .returned (.agg #[.int .i64 r1, .int .i64 r2, .string r3]) ∧ Below w.heap.size w w' := by
 have hu25 := Try.underlying25
 have HB := Aside0.mk (Below.refl w.heap.size w)
 have H : ((spec_l01Bool.f (a0.toList == ([111, 114] : List UInt8))).bind fun bt310 => ((spec_l01Bool.f (a0.toList != ([111, 114] : List UInt8))).bind fun bt313 => (if (a1_0 == bt310.1 && (a1_1 == bt310.2.1 && (a1_2.toList == bt310.2.2.toList))) = true then (spec_l01Logic.j0 k true a1_0 a1_1 a1_2 a2_0 a2_1 a2_2 bt310.1 bt310.2.1 bt310.2.2 bt313.1 bt313.2.1 bt313.2.2) else (spec_l01Logic.j0 k (a2_0 == bt310.1 && (a2_1 == bt310.2.1 && (a2_2.toList == bt310.2.2.toList))) a1_0 a1_1 a1_2 a2_0 a2_1 a2_2 bt310.1 bt310.2.1 bt310.2.2 bt313.1 bt313.2.1 bt313.2.2)))) = some (r1, r2, r3) := h
 clear h
 replace H := Option.bind_eq_some_iff.mp H
 obtain ⟨⟨t310, t311, t312⟩, A40, H⟩ := H
 replace H : ((spec_l01Bool.f (a0.toList != ([111, 114] : List UInt8))).bind fun bt313 => (if (a1_0 == t310 && (a1_1 == t311 && (a1_2.toList == t312.toList))) = true then (spec_l01Logic.j0 k true a1_0 a1_1 a1_2 a2_0 a2_1 a2_2 t310 t311 t312 bt313.1 bt313.2.1 bt313.2.2) else (spec_l01Logic.j0 k (a2_0 == t310 && (a2_1 == t311 && (a2_2.toList == t312.toList))) a1_0 a1_1 a1_2 a2_0 a2_1 a2_2 t310 t311 t312 bt313.1 bt313.2.1 bt313.2.2))) = some (r1, r2, r3) := H
 have A4 := Aside0.mk A40
 clear A40
 replace H := Option.bind_eq_some_iff.mp H
 obtain ⟨⟨t313, t314, t315⟩, A50, H⟩ := H
 replace H : (if (a1_0 == t310 && (a1_1 == t311 && (a1_2.toList == t312.toList))) = true then (spec_l01Logic.j0 k true a1_0 a1_1 a1_2 a2_0 a2_1 a2_2 t310 t311 t312 t313 t314 t315) else (spec_l01Logic.j0 k (a2_0 == t310 && (a2_1 == t311 && (a2_2.toList == t312.toList))) a1_0 a1_1 a1_2 a2_0 a2_1 a2_2 t310 t311 t312 t313 t314 t315)) = some (r1, r2, r3) := H
 have A5 := Aside0.mk A50
 clear A50
 have HC6 := Aside0.mk H
 clear H
 go_enter Try.func53, Try.ntmps53
 go_upto_region 2 with (first | ((with_reducible refine gate_dst (N := 4) rfl ?_); refine bx_ 4 #[.int .i64 a1_0, .int .i64 a1_1, .string a1_2] 25 ?_; intro gb307 hg w7 hbox hb; have BK307 := Aside0.mk (hbox); have GW307 := gw_ hg; have GE307 := gw_ hg; replace HB := bs_ hb; clear hb hbox hg) | ((with_reducible refine gate_dst (N := 5) rfl ?_); refine bx_ 5 #[.int .i64 a2_0, .int .i64 a2_1, .string a2_2] 25 ?_; intro gb308 hg w8 hbox hb; have BK308 := Aside0.mk (hbox); have GW308 := gw_ hg; have GE308 := gw_ hg; have NB307_308 := nl_ hg BK307; have NB308_307 := ng_ hg BK307; replace BK307 := bkb_ BK307 hb; replace HB := bs_ hb; clear hb hbox hg) | ((with_reducible refine gate_dst (N := 6) rfl ?_); refine bx_ 6 #[.int .i64 0, .int .i64 0, .string (⟨#[]⟩ : ByteArray)] 25 ?_; intro gb309 hg w9 hbox hb; have BK309 := Aside0.mk (hbox); have GW309 := gw_ hg; have GE309 := gw_ hg; have NB307_309 := nl_ hg BK307; have NB309_307 := ng_ hg BK307; have NB308_309 := nl_ hg BK308; have NB309_308 := ng_ hg BK308; replace BK307 := bkb_ BK307 hb; replace BK308 := bkb_ BK308 hb; replace HB := bs_ hb; clear hb hbox hg) | ((with_reducible refine gate_callee (f := 54) rfl ?_); refine gsL_ (some 11) Try.func54 #[.bool (a0.toList == ([111, 114] : List UInt8))] ?_; (with_reducible refine (spec_l01Bool.calls (a0.toList == ([111, 114] : List UInt8)) t310 t311 t312 _ A4.out).mono ?_); rintro e w10 ⟨rfl, hb⟩; refine ⟨_, rfl, ?_⟩; replace BK307 := bkb_ BK307 hb; replace BK308 := bkb_ BK308 hb; replace BK309 := bkb_ BK309 hb; replace HB := bs_ hb; (try clear hb)) | ((with_reducible refine gate_callee (f := 54) rfl ?_); refine gsL_ (some 14) Try.func54 #[.bool (a0.toList != ([111, 114] : List UInt8))] ?_; (with_reducible refine (spec_l01Bool.calls (a0.toList != ([111, 114] : List UInt8)) t313 t314 t315 _ A5.out).mono ?_); rintro e w11 ⟨rfl, hb⟩; refine ⟨_, rfl, ?_⟩; replace BK307 := bkb_ BK307 hb; replace BK308 := bkb_ BK308 hb; replace BK309 := bkb_ BK309 hb; replace HB := bs_ hb; (try clear hb)) | ((with_reducible refine gate_dst (N := 7) rfl ?_); refine bx_ 7 #[.int .i64 0, .int .i64 0, .string (⟨#[]⟩ : ByteArray)] 25 ?_; intro gb316 hg w12 hbox hb; have BK316 := Aside0.mk (hbox); have GW316 := gw_ hg; have GE316 := gw_ hg; have NB307_316 := nl_ hg BK307; have NB316_307 := ng_ hg BK307; have NB308_316 := nl_ hg BK308; have NB316_308 := ng_ hg BK308; have NB309_316 := nl_ hg BK309; have NB316_309 := ng_ hg BK309; replace BK307 := bkb_ BK307 hb; replace BK308 := bkb_ BK308 hb; replace BK309 := bkb_ BK309 hb; replace HB := bs_ hb; clear hb hbox hg) | ((with_reducible refine gate_dst (N := 8) rfl ?_); refine bx_ 8 #[.int .i64 0, .int .i64 0, .string (⟨#[]⟩ : ByteArray)] 25 ?_; intro gb317 hg w13 hbox hb; have BK317 := Aside0.mk (hbox); have GW317 := gw_ hg; have GE317 := gw_ hg; have NB307_317 := nl_ hg BK307; have NB317_307 := ng_ hg BK307; have NB308_317 := nl_ hg BK308; have NB317_308 := ng_ hg BK308; have NB309_317 := nl_ hg BK309; have NB317_309 := ng_ hg BK309; have NB316_317 := nl_ hg BK316; have NB317_316 := ng_ hg BK316; replace BK307 := bkb_ BK307 hb; replace BK308 := bkb_ BK308 hb; replace BK309 := bkb_ BK309 hb; replace BK316 := bkb_ BK316 hb; replace HB := bs_ hb; clear hb hbox hg; have hnb14 := NB316_307.out; have hnc14 := NB307_316.out; have hnb15 := NB316_308.out; have hnc15 := NB308_316.out; have hnb16 := NB316_309.out; have hnc16 := NB309_316.out; have hnb17 := NB316_317.out; have hnc17 := NB317_316.out; obtain ⟨hcz18_0, hcz18_1, hcz18_2, hfz18_0, hfz18_1, hfz18_2⟩ := b3_ BK316; have hnb19 := NB317_307.out; have hnc19 := NB307_317.out; have hnb20 := NB317_308.out; have hnc20 := NB308_317.out; have hnb21 := NB317_309.out; have hnc21 := NB309_317.out; obtain ⟨hcz22_0, hcz22_1, hcz22_2, hfz22_0, hfz22_1, hfz22_2⟩ := b3_ BK317))
 (try simp only [Act.put, List.setIfInBounds_toArray, List.set_cons_zero, List.set_cons_succ])
 go_cut [15] (fun v15 wc => ∃ (kq : Nat) (x15_5 : Bool), v15 = .bool x15_5 ∧ Aside0 (spec_l01Logic.j0 kq x15_5 a1_0 a1_1 a1_2 a2_0 a2_1 a2_2 t310 t311 t312 t313 t314 t315 = some (r1, r2, r3)) ∧ Aside0 (kq ≤ k) ∧ Aside0 (wc.heap[gb307]? = some (.cells #[.int .i64 a1_0, .int .i64 a1_1, .string a1_2] 25 (0, 0))) ∧ Aside0 (wc.heap[gb308]? = some (.cells #[.int .i64 a2_0, .int .i64 a2_1, .string a2_2] 25 (0, 0))) ∧ Aside0 (wc.heap[gb309]? = some (.cells #[.int .i64 0, .int .i64 0, .string (⟨#[]⟩ : ByteArray)] 25 (0, 0))) ∧ Aside0 (wc.heap[gb316]? = some (.cells #[.int .i64 t310, .int .i64 t311, .string t312] 25 (0, 0))) ∧ Aside0 (wc.heap[gb317]? = some (.cells #[.int .i64 t313, .int .i64 t314, .string t315] 25 (0, 0))) ∧ Aside0 (Below w.heap.size w wc))
 case first =>
  have H := HC6.out; clear HC6
  by_cases c23 : (a1_0 == t310 && (a1_1 == t311 && (a1_2.toList == t312.toList))) = true
  ·rw [if_pos c23] at H
   have c23b0 : (a1_0 == t310 && (a1_1 == t311 && (a1_2.toList == t312.toList))) = true := c23; (try (have c23b1 : decide (a1_0 = t310 && (a1_1 == t311 && (a1_2.toList == t312.toList))) = true := by simpa using c23)); (try (have c23b2 : (a1_0 == t310 && (a1_1 == t311 && (a1_2.toList == t312.toList))) = true := by simpa using c23)); clear c23; (first | rw [c23b0] | (simp only [i64_w, i32_w]; rw [c23b0]) | skip); have H' := Aside0.mk H; clear H; have hnb24 := NB307_308.out; have hnc24 := NB308_307.out; have hnb25 := NB307_309.out; have hnc25 := NB309_307.out; have hnb26 := NB307_316.out; have hnc26 := NB316_307.out; have hnb27 := NB307_317.out; have hnc27 := NB317_307.out; obtain ⟨hcz28_0, hcz28_1, hcz28_2, hfz28_0, hfz28_1, hfz28_2⟩ := b3_ BK307; have hnb29 := NB316_308.out; have hnc29 := NB308_316.out; have hnb30 := NB316_309.out; have hnc30 := NB309_316.out; have hnb31 := NB316_317.out; have hnc31 := NB317_316.out; obtain ⟨hcz32_0, hcz32_1, hcz32_2, hfz32_0, hfz32_1, hfz32_2⟩ := b3_ BK316
   go_wp2
   go_meet
   case rel => exact ⟨_, (true), rs_, H', ⟨by first | omega | exact Nat.le_refl _⟩, ⟨by (with_reducible repeat (first | refine blk_drewN ?_ _ | refine blk_drew ?_ | refine blk_alloc ?_ _)); refine blk_far ?_ NB307_317.out _; (with_reducible repeat (first | refine blk_drewN ?_ _ | refine blk_drew ?_ | refine blk_alloc ?_ _)); refine blk_far ?_ NB307_317.out _; (with_reducible repeat (first | refine blk_drewN ?_ _ | refine blk_drew ?_ | refine blk_alloc ?_ _)); refine blk_far ?_ NB307_317.out _; (with_reducible repeat (first | refine blk_drewN ?_ _ | refine blk_drew ?_ | refine blk_alloc ?_ _)); refine blk_far ?_ NB307_316.out _; (with_reducible repeat (first | refine blk_drewN ?_ _ | refine blk_drew ?_ | refine blk_alloc ?_ _)); refine blk_far ?_ NB307_316.out _; (with_reducible repeat (first | refine blk_drewN ?_ _ | refine blk_drew ?_ | refine blk_alloc ?_ _)); refine blk_far ?_ NB307_316.out _; (with_reducible repeat (first | refine blk_drewN ?_ _ | refine blk_drew ?_ | refine blk_alloc ?_ _)); exact BK307.out⟩, ⟨by (with_reducible repeat (first | refine blk_drewN ?_ _ | refine blk_drew ?_ | refine blk_alloc ?_ _)); refine blk_far ?_ NB308_317.out _; (with_reducible repeat (first | refine blk_drewN ?_ _ | refine blk_drew ?_ | refine blk_alloc ?_ _)); refine blk_far ?_ NB308_317.out _; (with_reducible repeat (first | refine blk_drewN ?_ _ | refine blk_drew ?_ | refine blk_alloc ?_ _)); refine blk_far ?_ NB308_317.out _; (with_reducible repeat (first | refine blk_drewN ?_ _ | refine blk_drew ?_ | refine blk_alloc ?_ _)); refine blk_far ?_ NB308_316.out _; (with_reducible repeat (first | refine blk_drewN ?_ _ | refine blk_drew ?_ | refine blk_alloc ?_ _)); refine blk_far ?_ NB308_316.out _; (with_reducible repeat (first | refine blk_drewN ?_ _ | refine blk_drew ?_ | refine blk_alloc ?_ _)); refine blk_far ?_ NB308_316.out _; (with_reducible repeat (first | refine blk_drewN ?_ _ | refine blk_drew ?_ | refine blk_alloc ?_ _)); exact BK308.out⟩, ⟨by (with_reducible repeat (first | refine blk_drewN ?_ _ | refine blk_drew ?_ | refine blk_alloc ?_ _)); refine blk_far ?_ NB309_317.out _; (with_reducible repeat (first | refine blk_drewN ?_ _ | refine blk_drew ?_ | refine blk_alloc ?_ _)); refine blk_far ?_ NB309_317.out _; (with_reducible repeat (first | refine blk_drewN ?_ _ | refine blk_drew ?_ | refine blk_alloc ?_ _)); refine blk_far ?_ NB309_317.out _; (with_reducible repeat (first | refine blk_drewN ?_ _ | refine blk_drew ?_ | refine blk_alloc ?_ _)); refine blk_far ?_ NB309_316.out _; (with_reducible repeat (first | refine blk_drewN ?_ _ | refine blk_drew ?_ | refine blk_alloc ?_ _)); refine blk_far ?_ NB309_316.out _; (with_reducible repeat (first | refine blk_drewN ?_ _ | refine blk_drew ?_ | refine blk_alloc ?_ _)); refine blk_far ?_ NB309_316.out _; (with_reducible repeat (first | refine blk_drewN ?_ _ | refine blk_drew ?_ | refine blk_alloc ?_ _)); exact BK309.out⟩, ⟨by (with_reducible repeat (first | refine blk_drewN ?_ _ | refine blk_drew ?_ | refine blk_alloc ?_ _)); refine blk_far ?_ NB316_317.out _; (with_reducible repeat (first | refine blk_drewN ?_ _ | refine blk_drew ?_ | refine blk_alloc ?_ _)); refine blk_far ?_ NB316_317.out _; (with_reducible repeat (first | refine blk_drewN ?_ _ | refine blk_drew ?_ | refine blk_alloc ?_ _)); refine blk_far ?_ NB316_317.out _; (with_reducible repeat (first | refine blk_drewN ?_ _ | refine blk_drew ?_ | refine blk_alloc ?_ _)); refine blk_put (cs := #[.int .i64 t310, .int .i64 t311, .string (⟨#[]⟩ : ByteArray)]) ?_ 2 _ rfl; (with_reducible repeat (first | refine blk_drewN ?_ _ | refine blk_drew ?_ | refine blk_alloc ?_ _)); refine blk_put (cs := #[.int .i64 t310, .int .i64 0, .string (⟨#[]⟩ : ByteArray)]) ?_ 1 _ rfl; (with_reducible repeat (first | refine blk_drewN ?_ _ | refine blk_drew ?_ | refine blk_alloc ?_ _)); refine blk_put (cs := #[.int .i64 0, .int .i64 0, .string (⟨#[]⟩ : ByteArray)]) ?_ 0 _ rfl; (with_reducible repeat (first | refine blk_drewN ?_ _ | refine blk_drew ?_ | refine blk_alloc ?_ _)); exact BK316.out⟩, ⟨by (with_reducible repeat (first | refine blk_drewN ?_ _ | refine blk_drew ?_ | refine blk_alloc ?_ _)); refine blk_put (cs := #[.int .i64 t313, .int .i64 t314, .string (⟨#[]⟩ : ByteArray)]) ?_ 2 _ rfl; (with_reducible repeat (first | refine blk_drewN ?_ _ | refine blk_drew ?_ | refine blk_alloc ?_ _)); refine blk_put (cs := #[.int .i64 t313, .int .i64 0, .string (⟨#[]⟩ : ByteArray)]) ?_ 1 _ rfl; (with_reducible repeat (first | refine blk_drewN ?_ _ | refine blk_drew ?_ | refine blk_alloc ?_ _)); refine blk_put (cs := #[.int .i64 0, .int .i64 0, .string (⟨#[]⟩ : ByteArray)]) ?_ 0 _ rfl; (with_reducible repeat (first | refine blk_drewN ?_ _ | refine blk_drew ?_ | refine blk_alloc ?_ _)); refine blk_far ?_ NB317_316.out _; (with_reducible repeat (first | refine blk_drewN ?_ _ | refine blk_drew ?_ | refine blk_alloc ?_ _)); refine blk_far ?_ NB317_316.out _; (with_reducible repeat (first | refine blk_drewN ?_ _ | refine blk_drew ?_ | refine blk_alloc ?_ _)); refine blk_far ?_ NB317_316.out _; (with_reducible repeat (first | refine blk_drewN ?_ _ | refine blk_drew ?_ | refine blk_alloc ?_ _)); exact BK317.out⟩, ⟨bb_⟩⟩
  ·rw [if_neg c23] at H
   (have c23b0 : (a1_0 == t310 && (a1_1 == t311 && (a1_2.toList == t312.toList))) = false := by simpa using c23); (try (have c23b1 : decide (a1_0 = t310 && (a1_1 == t311 && (a1_2.toList == t312.toList))) = false := by simpa using c23)); (try (have c23b2 : (a1_0 == t310 && (a1_1 == t311 && (a1_2.toList == t312.toList))) = false := by simpa using c23)); (try (have c23b3 : ¬ (a1_0 = t310 && (a1_1 == t311 && (a1_2.toList == t312.toList))) := by simpa using c23)); clear c23; (first | rw [c23b0] | (simp only [i64_w, i32_w]; rw [c23b0]) | skip); have H' := Aside0.mk H; clear H; have hnb33 := NB307_308.out; have hnc33 := NB308_307.out; have hnb34 := NB307_309.out; have hnc34 := NB309_307.out; have hnb35 := NB307_316.out; have hnc35 := NB316_307.out; have hnb36 := NB307_317.out; have hnc36 := NB317_307.out; obtain ⟨hcz37_0, hcz37_1, hcz37_2, hfz37_0, hfz37_1, hfz37_2⟩ := b3_ BK307; have hnb38 := NB316_308.out; have hnc38 := NB308_316.out; have hnb39 := NB316_309.out; have hnc39 := NB309_316.out; have hnb40 := NB316_317.out; have hnc40 := NB317_316.out; obtain ⟨hcz41_0, hcz41_1, hcz41_2, hfz41_0, hfz41_1, hfz41_2⟩ := b3_ BK316; have hnb42 := NB308_309.out; have hnc42 := NB309_308.out; have hnb43 := NB308_317.out; have hnc43 := NB317_308.out; obtain ⟨hcz44_0, hcz44_1, hcz44_2, hfz44_0, hfz44_1, hfz44_2⟩ := b3_ BK308
   go_wp2
   go_meet
   case rel => exact ⟨_, ((a2_0 == t310 && (a2_1 == t311 && (a2_2.toList == t312.toList)))), rs_, H', ⟨by first | omega | exact Nat.le_refl _⟩, ⟨by (with_reducible repeat (first | refine blk_drewN ?_ _ | refine blk_drew ?_ | refine blk_alloc ?_ _)); refine blk_far ?_ NB307_317.out _; (with_reducible repeat (first | refine blk_drewN ?_ _ | refine blk_drew ?_ | refine blk_alloc ?_ _)); refine blk_far ?_ NB307_317.out _; (with_reducible repeat (first | refine blk_drewN ?_ _ | refine blk_drew ?_ | refine blk_alloc ?_ _)); refine blk_far ?_ NB307_317.out _; (with_reducible repeat (first | refine blk_drewN ?_ _ | refine blk_drew ?_ | refine blk_alloc ?_ _)); refine blk_far ?_ NB307_316.out _; (with_reducible repeat (first | refine blk_drewN ?_ _ | refine blk_drew ?_ | refine blk_alloc ?_ _)); refine blk_far ?_ NB307_316.out _; (with_reducible repeat (first | refine blk_drewN ?_ _ | refine blk_drew ?_ | refine blk_alloc ?_ _)); refine blk_far ?_ NB307_316.out _; (with_reducible repeat (first | refine blk_drewN ?_ _ | refine blk_drew ?_ | refine blk_alloc ?_ _)); exact BK307.out⟩, ⟨by (with_reducible repeat (first | refine blk_drewN ?_ _ | refine blk_drew ?_ | refine blk_alloc ?_ _)); refine blk_far ?_ NB308_317.out _; (with_reducible repeat (first | refine blk_drewN ?_ _ | refine blk_drew ?_ | refine blk_alloc ?_ _)); refine blk_far ?_ NB308_317.out _; (with_reducible repeat (first | refine blk_drewN ?_ _ | refine blk_drew ?_ | refine blk_alloc ?_ _)); refine blk_far ?_ NB308_317.out _; (with_reducible repeat (first | refine blk_drewN ?_ _ | refine blk_drew ?_ | refine blk_alloc ?_ _)); refine blk_far ?_ NB308_316.out _; (with_reducible repeat (first | refine blk_drewN ?_ _ | refine blk_drew ?_ | refine blk_alloc ?_ _)); refine blk_far ?_ NB308_316.out _; (with_reducible repeat (first | refine blk_drewN ?_ _ | refine blk_drew ?_ | refine blk_alloc ?_ _)); refine blk_far ?_ NB308_316.out _; (with_reducible repeat (first | refine blk_drewN ?_ _ | refine blk_drew ?_ | refine blk_alloc ?_ _)); exact BK308.out⟩, ⟨by (with_reducible repeat (first | refine blk_drewN ?_ _ | refine blk_drew ?_ | refine blk_alloc ?_ _)); refine blk_far ?_ NB309_317.out _; (with_reducible repeat (first | refine blk_drewN ?_ _ | refine blk_drew ?_ | refine blk_alloc ?_ _)); refine blk_far ?_ NB309_317.out _; (with_reducible repeat (first | refine blk_drewN ?_ _ | refine blk_drew ?_ | refine blk_alloc ?_ _)); refine blk_far ?_ NB309_317.out _; (with_reducible repeat (first | refine blk_drewN ?_ _ | refine blk_drew ?_ | refine blk_alloc ?_ _)); refine blk_far ?_ NB309_316.out _; (with_reducible repeat (first | refine blk_drewN ?_ _ | refine blk_drew ?_ | refine blk_alloc ?_ _)); refine blk_far ?_ NB309_316.out _; (with_reducible repeat (first | refine blk_drewN ?_ _ | refine blk_drew ?_ | refine blk_alloc ?_ _)); refine blk_far ?_ NB309_316.out _; (with_reducible repeat (first | refine blk_drewN ?_ _ | refine blk_drew ?_ | refine blk_alloc ?_ _)); exact BK309.out⟩, ⟨by (with_reducible repeat (first | refine blk_drewN ?_ _ | refine blk_drew ?_ | refine blk_alloc ?_ _)); refine blk_far ?_ NB316_317.out _; (with_reducible repeat (first | refine blk_drewN ?_ _ | refine blk_drew ?_ | refine blk_alloc ?_ _)); refine blk_far ?_ NB316_317.out _; (with_reducible repeat (first | refine blk_drewN ?_ _ | refine blk_drew ?_ | refine blk_alloc ?_ _)); refine blk_far ?_ NB316_317.out _; (with_reducible repeat (first | refine blk_drewN ?_ _ | refine blk_drew ?_ | refine blk_alloc ?_ _)); refine blk_put (cs := #[.int .i64 t310, .int .i64 t311, .string (⟨#[]⟩ : ByteArray)]) ?_ 2 _ rfl; (with_reducible repeat (first | refine blk_drewN ?_ _ | refine blk_drew ?_ | refine blk_alloc ?_ _)); refine blk_put (cs := #[.int .i64 t310, .int .i64 0, .string (⟨#[]⟩ : ByteArray)]) ?_ 1 _ rfl; (with_reducible repeat (first | refine blk_drewN ?_ _ | refine blk_drew ?_ | refine blk_alloc ?_ _)); refine blk_put (cs := #[.int .i64 0, .int .i64 0, .string (⟨#[]⟩ : ByteArray)]) ?_ 0 _ rfl; (with_reducible repeat (first | refine blk_drewN ?_ _ | refine blk_drew ?_ | refine blk_alloc ?_ _)); exact BK316.out⟩, ⟨by (with_reducible repeat (first | refine blk_drewN ?_ _ | refine blk_drew ?_ | refine blk_alloc ?_ _)); refine blk_put (cs := #[.int .i64 t313, .int .i64 t314, .string (⟨#[]⟩ : ByteArray)]) ?_ 2 _ rfl; (with_reducible repeat (first | refine blk_drewN ?_ _ | refine blk_drew ?_ | refine blk_alloc ?_ _)); refine blk_put (cs := #[.int .i64 t313, .int .i64 0, .string (⟨#[]⟩ : ByteArray)]) ?_ 1 _ rfl; (with_reducible repeat (first | refine blk_drewN ?_ _ | refine blk_drew ?_ | refine blk_alloc ?_ _)); refine blk_put (cs := #[.int .i64 0, .int .i64 0, .string (⟨#[]⟩ : ByteArray)]) ?_ 0 _ rfl; (with_reducible repeat (first | refine blk_drewN ?_ _ | refine blk_drew ?_ | refine blk_alloc ?_ _)); refine blk_far ?_ NB317_316.out _; (with_reducible repeat (first | refine blk_drewN ?_ _ | refine blk_drew ?_ | refine blk_alloc ?_ _)); refine blk_far ?_ NB317_316.out _; (with_reducible repeat (first | refine blk_drewN ?_ _ | refine blk_drew ?_ | refine blk_alloc ?_ _)); refine blk_far ?_ NB317_316.out _; (with_reducible repeat (first | refine blk_drewN ?_ _ | refine blk_drew ?_ | refine blk_alloc ?_ _)); exact BK317.out⟩, ⟨bb_⟩⟩
 case rest =>
  clear HC6; (try clear c1); (try clear c2); (try clear p2); (try clear c3); (try clear c4); (try clear c5); (try clear c14); (try clear c15); (try clear c16); (try clear c17); (try clear c19); (try clear c20); (try clear c21); (try clear c23); (try clear c23b0); (try clear c23b1); (try clear c23b2); (try clear c24); (try clear c25); (try clear c26); (try clear c27); (try clear c29); (try clear c30); (try clear c31); (try clear c33); (try clear c34); (try clear c35); (try clear c36); (try clear c38); (try clear c39); (try clear c40); (try clear c42); (try clear c43); (try clear hcz18_0); (try clear hcz18_1); (try clear hcz18_2); (try clear hcz22_0); (try clear hcz22_1); (try clear hcz22_2); (try clear hcz28_0); (try clear hcz28_1); (try clear hcz28_2); (try clear hcz32_0); (try clear hcz32_1); (try clear hcz32_2); (try clear hcz37_0); (try clear hcz37_1); (try clear hcz37_2); (try clear hcz41_0); (try clear hcz41_1); (try clear hcz41_2); (try clear hcz44_0); (try clear hcz44_1); (try clear hcz44_2); (try clear hfz18_0); (try clear hfz18_1); (try clear hfz18_2); (try clear hfz22_0); (try clear hfz22_1); (try clear hfz22_2); (try clear hfz28_0); (try clear hfz28_1); (try clear hfz28_2); (try clear hfz32_0); (try clear hfz32_1); (try clear hfz32_2); (try clear hfz37_0); (try clear hfz37_1); (try clear hfz37_2); (try clear hfz41_0); (try clear hfz41_1); (try clear hfz41_2); (try clear hfz44_0); (try clear hfz44_1); (try clear hfz44_2); obtain ⟨kq, x15_5, rfl, HA, HJ5, BK307, BK308, BK309, BK316, BK317, HB⟩ := hcut
  cases kq with
  | zero => exact absurd HA.out (by simp [spec_l01Logic.j0])
  | succ kj5 =>
   have H := HA.out; clear HA; simp only [spec_l01Logic.j0] at H
   by_cases c45 : x15_5 = true
   ·subst c45
    (have H1 : (some (t310, t311, t312)) = some (r1, r2, r3) := by rw [if_pos rfl] at H; exact H); clear H; have H := H1; clear H1; simp only [Option.some.injEq, Prod.mk.injEq] at H; obtain ⟨rfl, rfl, rfl⟩ := H; have hnb46 := NB316_307.out; have hnc46 := NB307_316.out; have hnb47 := NB316_308.out; have hnc47 := NB308_316.out; have hnb48 := NB316_309.out; have hnc48 := NB309_316.out; have hnb49 := NB316_317.out; have hnc49 := NB317_316.out; obtain ⟨hcz50_0, hcz50_1, hcz50_2, hfz50_0, hfz50_1, hfz50_2⟩ := b3_ BK316; have hnb51 := NB309_307.out; have hnc51 := NB307_309.out; have hnb52 := NB309_308.out; have hnc52 := NB308_309.out; have hnb53 := NB309_317.out; have hnc53 := NB317_309.out; obtain ⟨hcz54_0, hcz54_1, hcz54_2, hfz54_0, hfz54_1, hfz54_2⟩ := b3_ BK309
    go_wp2
    refine bodyPost_ret (results_cell_row rfl _ _ gb309 25 #[.int .i64 t310, .int .i64 t311, .string t312] (0, 0) _ rfl (bp3_ (bkx_ BK309.out)) Try.underlying25 rfl (by kernel_rfl)) rfl ?_; exact ⟨er_, bb_⟩
   ·replace c45 := Bool.eq_false_iff.mpr c45
    subst c45; (have H1 : (if (a1_0 == t313 && (a1_1 == t314 && (a1_2.toList == t315.toList))) = true then (if (a2_0 == t313 && (a2_1 == t314 && (a2_2.toList == t315.toList))) = true then (some (t313, t314, t315)) else (some (0, 0, (⟨#[]⟩ : ByteArray)))) else (some (0, 0, (⟨#[]⟩ : ByteArray)))) = some (r1, r2, r3) := by rw [if_neg (show ¬ (false = true) by decide)] at H; exact H); clear H; have H := H1; clear H1
    by_cases c55 : (a1_0 == t313 && (a1_1 == t314 && (a1_2.toList == t315.toList))) = true
    ·rw [if_pos c55] at H
     have c55b0 : (a1_0 == t313 && (a1_1 == t314 && (a1_2.toList == t315.toList))) = true := c55; (try (have c55b1 : decide (a1_0 = t313 && (a1_1 == t314 && (a1_2.toList == t315.toList))) = true := by simpa using c55)); (try (have c55b2 : (a1_0 == t313 && (a1_1 == t314 && (a1_2.toList == t315.toList))) = true := by simpa using c55)); clear c55
     by_cases c56 : (a2_0 == t313 && (a2_1 == t314 && (a2_2.toList == t315.toList))) = true
     ·rw [if_pos c56] at H
      have c56b0 : (a2_0 == t313 && (a2_1 == t314 && (a2_2.toList == t315.toList))) = true := c56; (try (have c56b1 : decide (a2_0 = t313 && (a2_1 == t314 && (a2_2.toList == t315.toList))) = true := by simpa using c56)); (try (have c56b2 : (a2_0 == t313 && (a2_1 == t314 && (a2_2.toList == t315.toList))) = true := by simpa using c56)); clear c56; simp only [Option.some.injEq, Prod.mk.injEq] at H; obtain ⟨rfl, rfl, rfl⟩ := H; have hnb57 := NB307_308.out; have hnc57 := NB308_307.out; have hnb58 := NB307_309.out; have hnc58 := NB309_307.out; have hnb59 := NB307_316.out; have hnc59 := NB316_307.out; have hnb60 := NB307_317.out; have hnc60 := NB317_307.out; obtain ⟨hcz61_0, hcz61_1, hcz61_2, hfz61_0, hfz61_1, hfz61_2⟩ := b3_ BK307; have hnb62 := NB317_308.out; have hnc62 := NB308_317.out; have hnb63 := NB317_309.out; have hnc63 := NB309_317.out; have hnb64 := NB317_316.out; have hnc64 := NB316_317.out; obtain ⟨hcz65_0, hcz65_1, hcz65_2, hfz65_0, hfz65_1, hfz65_2⟩ := b3_ BK317; have hnb66 := NB308_309.out; have hnc66 := NB309_308.out; have hnb67 := NB308_316.out; have hnc67 := NB316_308.out; obtain ⟨hcz68_0, hcz68_1, hcz68_2, hfz68_0, hfz68_1, hfz68_2⟩ := b3_ BK308; have hnb69 := NB309_316.out; have hnc69 := NB316_309.out; obtain ⟨hcz70_0, hcz70_1, hcz70_2, hfz70_0, hfz70_1, hfz70_2⟩ := b3_ BK309
      go_wp2
      refine bodyPost_ret (results_cell_row rfl _ _ gb309 25 #[.int .i64 t313, .int .i64 t314, .string t315] (0, 0) _ rfl (bp3_ (bkx_ BK309.out)) Try.underlying25 rfl (by kernel_rfl)) rfl ?_; exact ⟨er_, bb_⟩
     ·rw [if_neg c56] at H
      (have c56b0 : (a2_0 == t313 && (a2_1 == t314 && (a2_2.toList == t315.toList))) = false := by simpa using c56); (try (have c56b1 : decide (a2_0 = t313 && (a2_1 == t314 && (a2_2.toList == t315.toList))) = false := by simpa using c56)); (try (have c56b2 : (a2_0 == t313 && (a2_1 == t314 && (a2_2.toList == t315.toList))) = false := by simpa using c56)); (try (have c56b3 : ¬ (a2_0 = t313 && (a2_1 == t314 && (a2_2.toList == t315.toList))) := by simpa using c56)); clear c56; simp only [Option.some.injEq, Prod.mk.injEq] at H; obtain ⟨rfl, rfl, rfl⟩ := H; have hnb71 := NB307_308.out; have hnc71 := NB308_307.out; have hnb72 := NB307_309.out; have hnc72 := NB309_307.out; have hnb73 := NB307_316.out; have hnc73 := NB316_307.out; have hnb74 := NB307_317.out; have hnc74 := NB317_307.out; obtain ⟨hcz75_0, hcz75_1, hcz75_2, hfz75_0, hfz75_1, hfz75_2⟩ := b3_ BK307; have hnb76 := NB317_308.out; have hnc76 := NB308_317.out; have hnb77 := NB317_309.out; have hnc77 := NB309_317.out; have hnb78 := NB317_316.out; have hnc78 := NB316_317.out; obtain ⟨hcz79_0, hcz79_1, hcz79_2, hfz79_0, hfz79_1, hfz79_2⟩ := b3_ BK317; have hnb80 := NB308_309.out; have hnc80 := NB309_308.out; have hnb81 := NB308_316.out; have hnc81 := NB316_308.out; obtain ⟨hcz82_0, hcz82_1, hcz82_2, hfz82_0, hfz82_1, hfz82_2⟩ := b3_ BK308; have hnb83 := NB309_316.out; have hnc83 := NB316_309.out; obtain ⟨hcz84_0, hcz84_1, hcz84_2, hfz84_0, hfz84_1, hfz84_2⟩ := b3_ BK309
      go_wp2
      refine bodyPost_ret (results_cell_row rfl _ _ gb309 25 #[.int .i64 0, .int .i64 0, .string (⟨#[]⟩ : ByteArray)] (0, 0) _ rfl (bp3_ (bkx_ BK309.out)) Try.underlying25 rfl (by kernel_rfl)) rfl ?_; exact ⟨er_, bb_⟩
    ·rw [if_neg c55] at H
     (have c55b0 : (a1_0 == t313 && (a1_1 == t314 && (a1_2.toList == t315.toList))) = false := by simpa using c55); (try (have c55b1 : decide (a1_0 = t313 && (a1_1 == t314 && (a1_2.toList == t315.toList))) = false := by simpa using c55)); (try (have c55b2 : (a1_0 == t313 && (a1_1 == t314 && (a1_2.toList == t315.toList))) = false := by simpa using c55)); (try (have c55b3 : ¬ (a1_0 = t313 && (a1_1 == t314 && (a1_2.toList == t315.toList))) := by simpa using c55)); clear c55; simp only [Option.some.injEq, Prod.mk.injEq] at H; obtain ⟨rfl, rfl, rfl⟩ := H; have hnb85 := NB307_308.out; have hnc85 := NB308_307.out; have hnb86 := NB307_309.out; have hnc86 := NB309_307.out; have hnb87 := NB307_316.out; have hnc87 := NB316_307.out; have hnb88 := NB307_317.out; have hnc88 := NB317_307.out; obtain ⟨hcz89_0, hcz89_1, hcz89_2, hfz89_0, hfz89_1, hfz89_2⟩ := b3_ BK307; have hnb90 := NB317_308.out; have hnc90 := NB308_317.out; have hnb91 := NB317_309.out; have hnc91 := NB309_317.out; have hnb92 := NB317_316.out; have hnc92 := NB316_317.out; obtain ⟨hcz93_0, hcz93_1, hcz93_2, hfz93_0, hfz93_1, hfz93_2⟩ := b3_ BK317; have hnb94 := NB309_308.out; have hnc94 := NB308_309.out; have hnb95 := NB309_316.out; have hnc95 := NB316_309.out; obtain ⟨hcz96_0, hcz96_1, hcz96_2, hfz96_0, hfz96_1, hfz96_2⟩ := b3_ BK309
     go_wp2
     refine bodyPost_ret (results_cell_row rfl _ _ gb309 25 #[.int .i64 0, .int .i64 0, .string (⟨#[]⟩ : ByteArray)] (0, 0) _ rfl (bp3_ (bkx_ BK309.out)) Try.underlying25 rfl (by kernel_rfl)) rfl ?_; exact ⟨er_, bb_⟩

/-! ### spec_CompareValue: function 55 -/
-- by hand
theorem gtr_str (t : TypeId) (a b : ByteArray) : binOp .gtr t (.string a) (.string b) = pure (.bool !(Op.bytesLess a.toList b.toList || a.toList == b.toList)) := by simp [binOp, Op.stringOp]
attribute [local go_sem] gtr_str
/-- The order of values, as the reference tells it. -/
def cmpV (a b : Int) (s : ByteArray) (a' b' : Int) (s' : ByteArray) : Int :=
  if a < a' then -1 else if a' < a then 1 else if b < b' then -1 else if b' < b then 1 else if Op.bytesLess s.toList s'.toList = true then -1 else if (Op.bytesLess s.toList s'.toList || s.toList == s'.toList) = true then 0 else 1
def spec_CompareValue.f (a0_0 : Int) (a0_1 : Int) (a0_2 : ByteArray) (a1_0 : Int) (a1_1 : Int) (a1_2 : ByteArray) : Option Int := some (cmpV a0_0 a0_1 a0_2 a1_0 a1_1 a1_2)
theorem ret_intc {k : IntKind} {a b : Int} (h : a = b) : Ending.returned (.int k b) = .returned (.int k a) := by rw [h]
set_option maxRecDepth 100000 in
theorem spec_CompareValue.calls (a0_0 : Int) (a0_1 : Int) (a0_2 : ByteArray) (a1_0 : Int) (a1_1 : Int) (a1_2 : ByteArray) (r : Int) (w : World) (h : spec_CompareValue.f a0_0 a0_1 a0_2 a1_0 a1_1 a1_2 = some r) :
    Calls Try.prog 55 #[.agg #[.int .i64 a0_0, .int .i64 a0_1, .string a0_2], .agg #[.int .i64 a1_0, .int .i64 a1_1, .string a1_2]] w fun e w' => e = .returned (.int .i64 r) ∧ Below w.heap.size w w' := by
  have hu := Try.underlying25
  unfold spec_CompareValue.f at h
  replace h := Option.some.inj h
  unfold cmpV at h
  by_cases h1 : a0_0 < a1_0
  · rw [if_pos h1] at h
    subst h
    have d1 : decide (a0_0 < a1_0) = true := decide_eq_true h1
    clear h1
    go_enter Try.func55, Try.ntmps55
    go_wp2
    go_ret
    exact ⟨rfl, ((Below.refl _ _).alloc (Nat.le_refl _) _).alloc (by simp) _⟩
  rw [if_neg h1] at h
  have d1 : decide (a0_0 < a1_0) = false := decide_eq_false h1
  clear h1
  by_cases h2 : a1_0 < a0_0
  · rw [if_pos h2] at h
    subst h
    have d2 : decide (a1_0 < a0_0) = true := decide_eq_true h2
    clear h2
    go_enter Try.func55, Try.ntmps55
    go_wp2
    go_ret
    exact ⟨rfl, ((Below.refl _ _).alloc (Nat.le_refl _) _).alloc (by simp) _⟩
  rw [if_neg h2] at h
  have d2 : decide (a1_0 < a0_0) = false := decide_eq_false h2
  clear h2
  by_cases h3 : a0_1 < a1_1
  · rw [if_pos h3] at h
    subst h
    have d3 : decide (a0_1 < a1_1) = true := decide_eq_true h3
    clear h3
    go_enter Try.func55, Try.ntmps55
    go_wp2
    go_ret
    exact ⟨rfl, ((Below.refl _ _).alloc (Nat.le_refl _) _).alloc (by simp) _⟩
  rw [if_neg h3] at h
  have d3 : decide (a0_1 < a1_1) = false := decide_eq_false h3
  clear h3
  by_cases h4 : a1_1 < a0_1
  · rw [if_pos h4] at h
    subst h
    have d4 : decide (a1_1 < a0_1) = true := decide_eq_true h4
    clear h4
    go_enter Try.func55, Try.ntmps55
    go_wp2
    go_ret
    exact ⟨rfl, ((Below.refl _ _).alloc (Nat.le_refl _) _).alloc (by simp) _⟩
  rw [if_neg h4] at h
  have d4 : decide (a1_1 < a0_1) = false := decide_eq_false h4
  clear h4
  by_cases h5 : Op.bytesLess a0_2.toList a1_2.toList = true
  · rw [if_pos h5] at h
    subst h
    go_enter Try.func55, Try.ntmps55
    go_wp2
    go_ret
    exact ⟨rfl, ((Below.refl _ _).alloc (Nat.le_refl _) _).alloc (by simp) _⟩
  rw [if_neg h5] at h
  have d5 : Op.bytesLess a0_2.toList a1_2.toList = false := by simpa using h5
  clear h5
  rw [d5, Bool.false_or] at h
  by_cases h6 : (a0_2.toList == a1_2.toList) = true
  · rw [if_pos h6] at h
    subst h
    go_enter Try.func55, Try.ntmps55
    go_wp2
    go_ret
    exact ⟨rfl, ((Below.refl _ _).alloc (Nat.le_refl _) _).alloc (by simp) _⟩
  · rw [if_neg h6] at h
    subst h
    have d6 : (a0_2.toList == a1_2.toList) = false := by simpa using h6
    clear h6
    go_enter Try.func55, Try.ntmps55
    go_wp2
    go_ret
    exact ⟨rfl, ((Below.refl _ _).alloc (Nat.le_refl _) _).alloc (by simp) _⟩


/-! ### spec_l01Holds: function 56 -/
def spec_l01Holds.l0 : Nat → ByteArray → ByteArray → Int → Option (Bool)
 | 0, _, _, _ => none
 | k + 1, x0, x1, x5 => if (wrap64 (x5 + (x1.size : Int))) ≤ (x0.size : Int) then (if 0 ≤ x5 then (if x5 ≤ (wrap64 (x5 + (x1.size : Int))) then (if (x0.extract (x5 : Int).toNat ((wrap64 (x5 + (x1.size : Int))) : Int).toNat).toList = x1.toList then (some true) else (spec_l01Holds.l0 k x0 x1 (wrap64 (x5 + 1)))) else (none)) else (none)) else (some false)
def spec_l01Holds.f (k : Nat) (a0 : ByteArray) (a1 : ByteArray) : Option (Bool) := spec_l01Holds.l0 k a0 a1 0
set_option maxHeartbeats 8000000 in
set_option maxRecDepth 100000 in
theorem spec_l01Holds.calls (k : Nat) (a0 : ByteArray) (a1 : ByteArray) (r : Bool) (w : World) (h : spec_l01Holds.f k a0 a1 = some r) :
  Calls Try.prog 56 #[.string a0, .string a1] w fun e w' => e = .returned (.bool r) ∧ Drawn0 w w' := by
 have H : (spec_l01Holds.l0 k a0 a1 0) = some r := h
 clear h
 have H' := Aside0.mk H
 clear H
 go_enter Try.func56, Try.ntmps56
 go_wp2
 go_loopg [5] k (fun kq v5 w' => ∃ (x5_1 : Int), v5 = .int .i64 x5_1 ∧ Aside0 (spec_l01Holds.l0 kq a0 a1 x5_1 = some r) ∧ Aside0 (kq ≤ k) ∧ Drawn0 w w')
 case atStart => exact ⟨(0), rs_, H', ⟨Nat.le_refl _⟩, by repeat (first | exact Drawn0.refl _ | apply Drawn0.step)⟩
 case round =>
  clear H'; (try clear p2); obtain ⟨x5_1, rfl, HA, HK1, ⟨m1, rfl⟩⟩ := hrel
  cases gk with
  | zero => exact absurd HA.out (by simp [spec_l01Holds.l0])
  | succ k1 =>
   have H := HA.out; clear HA; simp only [spec_l01Holds.l0] at H
   by_cases c3 : (wrap64 (x5_1 + (a1.size : Int))) ≤ (a0.size : Int)
   ·rw [if_pos c3] at H
    have c3b0 : decide ((wrap64 (x5_1 + (a1.size : Int))) ≤ (a0.size : Int)) = true := decide_eq_true c3; clear c3
    by_cases c4 : 0 ≤ x5_1
    ·rw [if_pos c4] at H
     have c4b0 := eq_true c4; have c4b1 : decide (0 ≤ x5_1) = true := decide_eq_true c4; clear c4
     by_cases c5 : x5_1 ≤ (wrap64 (x5_1 + (a1.size : Int)))
     ·rw [if_pos c5] at H
      have c5b0 := eq_true c5; have c5b1 : decide (x5_1 ≤ (wrap64 (x5_1 + (a1.size : Int)))) = true := decide_eq_true c5; (have c6b0 := eq_true (of_decide_eq_true (by first | (with_reducible assumption) | assumption) : (wrap64 (x5_1 + (a1.size : Int))) ≤ (a0.size : Int)))
      by_cases c7 : (a0.extract (x5_1 : Int).toNat ((wrap64 (x5_1 + (a1.size : Int))) : Int).toNat).toList = a1.toList
      ·rw [if_pos c7] at H
       have c7b0 : ((a0.extract (x5_1 : Int).toNat ((wrap64 (x5_1 + (a1.size : Int))) : Int).toNat).toList == a1.toList) = true := beq_iff_eq.mpr c7; have c7b1 : ((a0.extract (x5_1 : Int).toNat ((wrap64 (x5_1 + (a1.size : Int))) : Int).toNat).toList != a1.toList) = false := bne_eq_false_iff_eq.mpr c7; clear c7; obtain rfl := Option.some.inj H
       go_wp2
       go_ret
       (exact ⟨by first | rfl | (simp; done) | (simp [*]; done), by repeat (first | exact Drawn0.refl _ | apply Drawn0.step)⟩)
      ·rw [if_neg c7] at H
       have c7b0 : ((a0.extract (x5_1 : Int).toNat ((wrap64 (x5_1 + (a1.size : Int))) : Int).toNat).toList == a1.toList) = false := beq_eq_false_iff_ne.mpr c7; have c7b1 : ((a0.extract (x5_1 : Int).toNat ((wrap64 (x5_1 + (a1.size : Int))) : Int).toNat).toList != a1.toList) = true := bne_iff_ne.mpr c7; have H' := Aside0.mk H; clear H
       go_wp2
       go_roundg k1
       case measure => have := HK1.out; omega
       case rel => exact ⟨(wrap64 (x5_1 + 1)), rs_, H', ⟨by have := HK1.out; omega⟩, by repeat (first | exact Drawn0.refl _ | apply Drawn0.step)⟩
     ·rw [if_neg c5] at H
      exact absurd H (by simp)
    ·rw [if_neg c4] at H
     exact absurd H (by simp)
   ·rw [if_neg c3] at H
    have c3b0 : decide ((wrap64 (x5_1 + (a1.size : Int))) ≤ (a0.size : Int)) = false := decide_eq_false c3; clear c3; obtain rfl := Option.some.inj H
    go_wp2
    go_ret
    (exact ⟨by first | rfl | (simp; done) | (simp [*]; done), by repeat (first | exact Drawn0.refl _ | apply Drawn0.step)⟩)

/-! ### spec_l01Sum: function 102 -/
def spec_l01Sum.f (a0 : Int) (a1 : Int) : Option (Int × Int × ByteArray) := if ((decide ((wrap64 (a0 + a1)) > a0)) != (decide (a1 > 0))) = true then (some (0, 0, (⟨#[]⟩ : ByteArray))) else ((spec_l01Int.f (wrap64 (a0 + a1))).bind fun bt319 => (some (bt319.1, bt319.2.1, bt319.2.2)))
set_option maxHeartbeats 8000000 in
set_option maxRecDepth 100000 in
theorem spec_l01Sum.calls (a0 : Int) (a1 : Int) (r1 : Int) (r2 : Int) (r3 : ByteArray) (w : World) (h : spec_l01Sum.f a0 a1 = some (r1, r2, r3)) :
  Calls Try.prog 102 #[.int .i64 a0, .int .i64 a1] w fun e w' => e = .returned (.agg #[.int .i64 r1, .int .i64 r2, .string r3]) ∧ Below w.heap.size w w' := by
 have hu25 := Try.underlying25
 have HB := Aside0.mk (Below.refl w.heap.size w)
 have H : (if ((decide ((wrap64 (a0 + a1)) > a0)) != (decide (a1 > 0))) = true then (some (0, 0, (⟨#[]⟩ : ByteArray))) else ((spec_l01Int.f (wrap64 (a0 + a1))).bind fun bt319 => (some (bt319.1, bt319.2.1, bt319.2.2)))) = some (r1, r2, r3) := h
 clear h
 by_cases c3 : ((decide ((wrap64 (a0 + a1)) > a0)) != (decide (a1 > 0))) = true
 ·rw [if_pos c3] at H
  have c3b0 : ((decide ((wrap64 (a0 + a1)) > a0)) != (decide (a1 > 0))) = true := c3; (try (have c3b1 : decide ((decide ((wrap64 (a0 + a1)) > a0)) = (decide (a1 > 0))) = false := by simpa using c3)); (try (have c3b2 : ((decide ((wrap64 (a0 + a1)) > a0)) == (decide (a1 > 0))) = false := by simpa using c3)); (try (have c3b3 : ¬ ((decide ((wrap64 (a0 + a1)) > a0)) = (decide (a1 > 0))) := by simpa using c3)); clear c3; simp only [Option.some.injEq, Prod.mk.injEq] at H; obtain ⟨rfl, rfl, rfl⟩ := H
  go_enter Try.func102, Try.ntmps102
  go_wp2_with (first | ((with_reducible refine gate_dst (N := 4) rfl ?_); refine bx_ 4 #[.int .i64 0, .int .i64 0, .string (⟨#[]⟩ : ByteArray)] 25 ?_; intro gb318 hg w4 hbox hb; have BK318 := Aside0.mk (hbox); have GW318 := gw_ hg; have GE318 := gw_ hg; replace HB := bs_ hb; clear hb hbox hg; obtain ⟨hcz5_0, hcz5_1, hcz5_2, hfz5_0, hfz5_1, hfz5_2⟩ := b3_ BK318))
  refine bodyPost_ret (results_cell_row rfl _ _ gb318 25 #[.int .i64 0, .int .i64 0, .string (⟨#[]⟩ : ByteArray)] (0, 0) _ rfl (bp3_ (bkx_ BK318.out)) Try.underlying25 rfl (by kernel_rfl)) rfl ?_; exact ⟨er_, bb_⟩
 ·rw [if_neg c3] at H
  (have c3b0 : ((decide ((wrap64 (a0 + a1)) > a0)) != (decide (a1 > 0))) = false := by simpa using c3); (try (have c3b1 : decide ((decide ((wrap64 (a0 + a1)) > a0)) = (decide (a1 > 0))) = true := by simpa using c3)); (try (have c3b2 : ((decide ((wrap64 (a0 + a1)) > a0)) == (decide (a1 > 0))) = true := by simpa using c3)); clear c3; replace H := Option.bind_eq_some_iff.mp H; obtain ⟨⟨t319, t320, t321⟩, A60, H⟩ := H; replace H : (some (t319, t320, t321)) = some (r1, r2, r3) := H; have A6 := Aside0.mk A60; clear A60; simp only [Option.some.injEq, Prod.mk.injEq] at H; obtain ⟨rfl, rfl, rfl⟩ := H
  go_enter Try.func102, Try.ntmps102
  go_wp2_with (first | ((with_reducible refine gate_dst (N := 4) rfl ?_); refine bx_ 4 #[.int .i64 0, .int .i64 0, .string (⟨#[]⟩ : ByteArray)] 25 ?_; intro gb318 hg w7 hbox hb; have BK318 := Aside0.mk (hbox); have GW318 := gw_ hg; have GE318 := gw_ hg; replace HB := bs_ hb; clear hb hbox hg) | ((with_reducible refine gate_callee (f := 101) rfl ?_); refine gsL_ (some 17) Try.func101 #[.int .i64 (wrap64 (a0 + a1))] ?_; (with_reducible refine (spec_l01Int.calls (wrap64 (a0 + a1)) t319 t320 t321 _ A6.out).mono ?_); rintro e w8 ⟨rfl, hb⟩; refine ⟨_, rfl, ?_⟩; replace BK318 := bkb_ BK318 hb; replace HB := bs_ hb; (try clear hb); obtain ⟨hcz9_0, hcz9_1, hcz9_2, hfz9_0, hfz9_1, hfz9_2⟩ := b3_ BK318))
  refine bodyPost_ret (results_cell_row rfl _ _ gb318 25 #[.int .i64 t319, .int .i64 t320, .string t321] (0, 0) _ rfl (bp3_ (bkx_ BK318.out)) Try.underlying25 rfl (by kernel_rfl)) rfl ?_; exact ⟨er_, bb_⟩

end Go.Proofs.Ythgdmdabdlgliaa.PFnReckon
