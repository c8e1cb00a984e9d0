-- WRITTEN BY xprint.py, a program of this session over the kit's printer: by nobody's hand
-- PRESSED
import Derived.Test.YthgdmdabdlgliaaDoorPress
import Derived.Test.YthgdmdabdlgliaaDoorPFnExactBagTextx0
import Derived.Test.YthgdmdabdlgliaaDoorPFnExactBagTextx5
namespace Go.Proofs.YthgdmdabdlgliaaDoor.PFnExactBagText
open Go.RowKit Go.Proofs.YthgdmdabdlgliaaDoorW.PrintWords Go.Proofs.YthgdmdabdlgliaaDoorW.PrintLast Go.Proofs.YthgdmdabdlgliaaDoorW.PrintMore
set_option linter.unusedVariables false
set_option linter.unusedSimpArgs false

/-! ### impl_CompareValue: function 14 -/
def impl_CompareValue.f (k : Nat) (a0_0 : Int) (a0_1 : Int) (a0_2 : ByteArray) (a1_0 : Int) (a1_1 : Int) (a1_2 : ByteArray) : Option (Int) := (cmp_Compare_int.f a0_0 a1_0).bind fun t187 => ((cmp_Compare_int.f a0_1 a1_1).bind fun t188 => ((strings_Compare.f a0_2 a1_2).bind fun t189 => ((cmp_Or_int.f k (([t187, t188, t189] : List Int))).bind fun t193 => (some t193))))
def impl_CompareValue.T1 : Bool × List (List Nat × List Nat) := (true, [([], []), ([0], [0]), ([], []), ([2], [2]), ([1, 3], [1, 3]), ([], []), ([5], [5]), ([], []), ([7], [7]), ([6, 8, 4], [6, 8]), ([], []), ([10], [10]), ([], []), ([12], [12]), ([11, 13, 9], [11, 13]), ([4, 9, 14], [4, 9, 14]), ([15, 14], [15]), ([16, 16, 0, 1, 2, 3, 4, 5, 6, 7, 8, 9, 10, 11, 12, 13, 14, 15, 16], [16])])
def impl_CompareValue.B1 : List Nat := [0, 1, 0, 4, 15, 0, 32, 0, 128, 511, 0, 1024, 0, 4096, 16383, 32767, 65535, 131071]
theorem impl_CompareValue.tab1 : rtab .any (opsOf Tryd.f14 1) = impl_CompareValue.T1 := by kernel_rfl
theorem impl_CompareValue.bits1 : waitsOk impl_CompareValue.T1.2 impl_CompareValue.B1 = true := by kernel_rfl
set_option maxHeartbeats 8000000 in
set_option maxRecDepth 100000 in
theorem impl_CompareValue.calls (k : Nat) (a0_0 : Int) (a0_1 : Int) (a0_2 : ByteArray) (a1_0 : Int) (a1_1 : Int) (a1_2 : ByteArray) (r : Int) (w : World) (h : impl_CompareValue.f k a0_0 a0_1 a0_2 a1_0 a1_1 a1_2 = some r) :
  Calls Tryd.prog 14 #[.agg #[.int .i64 a0_0, .int .i64 a0_1, .string a0_2], .agg #[.int .i64 a1_0, .int .i64 a1_1, .string a1_2]] w fun e w' => e = .returned (.int .i64 r) ∧ Below w.heap.size w w' := by
 have hu29 := Tryd.underlying29
 have HB := Aside0.mk (Below.refl w.heap.size w)
 have H : ((cmp_Compare_int.f a0_0 a1_0).bind fun t187 => ((cmp_Compare_int.f a0_1 a1_1).bind fun t188 => ((strings_Compare.f a0_2 a1_2).bind fun t189 => ((cmp_Or_int.f k (([t187, t188, t189] : List Int))).bind fun t193 => (some t193))))) = some r := h
 clear h
 replace H := Option.bind_eq_some_iff.mp H
 obtain ⟨t187, A30, H⟩ := H
 replace H : ((cmp_Compare_int.f a0_1 a1_1).bind fun t188 => ((strings_Compare.f a0_2 a1_2).bind fun t189 => ((cmp_Or_int.f k (([t187, t188, t189] : List Int))).bind fun t193 => (some t193)))) = some r := H
 have A3 := Aside0.mk A30
 clear A30
 replace H := Option.bind_eq_some_iff.mp H
 obtain ⟨t188, A40, H⟩ := H
 replace H : ((strings_Compare.f a0_2 a1_2).bind fun t189 => ((cmp_Or_int.f k (([t187, t188, t189] : List Int))).bind fun t193 => (some t193))) = some r := H
 have A4 := Aside0.mk A40
 clear A40
 replace H := Option.bind_eq_some_iff.mp H
 obtain ⟨t189, A50, H⟩ := H
 replace H : ((cmp_Or_int.f k (([t187, t188, t189] : List Int))).bind fun t193 => (some t193)) = some r := H
 have A5 := Aside0.mk A50
 clear A50
 obtain ⟨y190, hy190⟩ : ∃ y_ : List Int, y_ = (([t187, t188, t189] : List Int)) := ⟨_, rfl⟩
 replace H : ((cmp_Or_int.f k y190).bind fun t193 => (some t193)) = some r := by first | (rw [hy190]; with_reducible exact H) | (have H2_ := (Option.bind_some _ _).symm.trans H; rw [hy190]; with_reducible exact H2_) | (have H2_ := (Option.bind_some _ _).symm.trans H; with_reducible exact H2_) | with_reducible exact H | (rw [hy190]; exact H) | exact H
 have Ny190 := Aside0.mk hy190
 clear hy190
 replace H := Option.bind_eq_some_iff.mp H
 obtain ⟨t193, A60, H⟩ := H
 replace H : (some t193) = some r := H
 have A6 := Aside0.mk A60
 clear A60
 obtain rfl := Option.some.inj H
 go_enter Tryd.func14, Tryd.ntmps14
 try go_wp2_with (first | ((with_reducible refine gate_dst (N := 2) rfl ?_); refine bx_ 2 #[.int .i64 a0_0, .int .i64 a0_1, .string a0_2] 29 ?_; intro gb185 hg w7 hbox hb; have BK185 := Aside0.mk (hbox); have GW185 := gw_ hg; have GE185 := gw_ hg; replace HB := bs_ hb; clear hb hbox hg) | ((with_reducible refine gate_dst (N := 3) rfl ?_); refine bx_ 3 #[.int .i64 a1_0, .int .i64 a1_1, .string a1_2] 29 ?_; intro gb186 hg w8 hbox hb; have BK186 := Aside0.mk (hbox); have GW186 := gw_ hg; have GE186 := gw_ hg; have NB185_186 := nl_ hg BK185; have NB186_185 := ng_ hg BK185; replace BK185 := bkb_ BK185 hb; replace HB := bs_ hb; clear hb hbox hg))
 replace BK185 := Aside0.mk (blk_drew BK185.out)
 replace BK186 := Aside0.mk (blk_drew BK186.out)
 replace HB := Aside0.mk (below_drew1 HB.out)
 refine start_ (n := 18) (S := fun w' => w'.cell? ⟨gb185, 0, none⟩ = some (.int .i64 a0_0) ∧ w'.cell? ⟨gb185, 1, none⟩ = some (.int .i64 a0_1) ∧ w'.cell? ⟨gb185, 2, none⟩ = some (.string a0_2) ∧ w'.cell? ⟨gb186, 0, none⟩ = some (.int .i64 a1_0) ∧ w'.cell? ⟨gb186, 1, none⟩ = some (.int .i64 a1_1) ∧ w'.cell? ⟨gb186, 2, none⟩ = some (.string a1_2)) (ds := []) (tf 0 18) (by kernel_rfl) rfl rfl ⟨bc_ BK185 0, bc_ BK185 1, bc_ BK185 2, bc_ BK186 0, bc_ BK186 1, bc_ BK186 2⟩ (fun hHeld => ?_); refine with_tabW impl_CompareValue.tab1 impl_CompareValue.bits1 (fun HT_ HW_ => ?_)
 generalize w8.drew = w9 at BK185 BK186 HB hHeld ⊢
 refine pl_ ?_
 refine plx_ 2 #[true, false, true, false, false, false, false, false, false, false, false, false, false, false, false, false, false, false] ?_
 refine plx_ 5 #[true, false, true, false, false, true, false, false, false, false, false, false, false, false, false, false, false, false] ?_
 refine plx_ 7 #[true, false, true, false, false, true, false, true, false, false, false, false, false, false, false, false, false, false] ?_
 refine plx_ 10 #[true, false, true, false, false, true, false, true, false, false, true, false, false, false, false, false, false, false] ?_
 refine plx_ 12 #[true, false, true, false, false, true, false, true, false, false, true, false, true, false, false, false, false, false] ?_
 refine tlx_ 1 #[true, true, true, false, false, true, false, true, false, false, true, false, true, false, false, false, false, false] ?_
 refine tlx_ 3 #[true, true, true, true, false, true, false, true, false, false, true, false, true, false, false, false, false, false] ?_
 refine tlx_ 6 #[true, true, true, true, false, true, true, true, false, false, true, false, true, false, false, false, false, false] ?_
 refine tlx_ 8 #[true, true, true, true, false, true, true, true, true, false, true, false, true, false, false, false, false, false] ?_
 refine tlx_ 11 #[true, true, true, true, false, true, true, true, true, false, true, true, true, false, false, false, false, false] ?_
 refine tlx_ 13 #[true, true, true, true, false, true, true, true, true, false, true, true, true, true, false, false, false, false] ?_
 refine one_ (i := 4) (N := some 9) #[true, true, true, true, true, true, true, true, true, false, true, true, true, true, false, false, false, false] rfl rfl (one_of HT_.out (by kernel_rfl)) (by decide) (fun K hK => ?_)
 refine gs_ Tryd.func56 #[.int .i64 a0_0, .int .i64 a1_0] ?_
 with_reducible refine (cmp_Compare_int.calls a0_0 a1_0 t187 _ A3.out).mono ?_
 rintro e w' ⟨rfl, ⟨nd, rfl⟩⟩
 refine ⟨_, rfl, ?_⟩
 refine hK.out _ _ ⟨bc_ BK185 0, bc_ BK185 1, bc_ BK185 2, bc_ BK186 0, bc_ BK186 1, bc_ BK186 2⟩ (fun hHeld => ?_)
 clear hK K
 refine nm_ ?_
 refine one_ (i := 9) (N := some 14) (tf 14 4) rfl rfl (one_of HT_.out (by kernel_rfl)) (by decide) (fun K hK => ?_)
 refine gs_ Tryd.func56 #[.int .i64 a0_1, .int .i64 a1_1] ?_
 with_reducible refine (cmp_Compare_int.calls a0_1 a1_1 t188 _ A4.out).mono ?_
 rintro e w' ⟨rfl, ⟨nd, rfl⟩⟩
 refine ⟨_, rfl, ?_⟩
 refine hK.out _ _ ⟨bc_ BK185 0, bc_ BK185 1, bc_ BK185 2, bc_ BK186 0, bc_ BK186 1, bc_ BK186 2⟩ (fun hHeld => ?_)
 clear hK K
 refine nm_ ?_
 refine one_ (i := 14) (N := some 19) (tf 15 3) rfl rfl (one_of HT_.out (by kernel_rfl)) (by decide) (fun K hK => ?_)
 refine gs_ Tryd.func57 #[.string a0_2, .string a1_2] ?_
 with_reducible refine (strings_Compare.calls a0_2 a1_2 t189 _ A5.out).mono ?_
 rintro e w' ⟨rfl, ⟨nd, rfl⟩⟩
 refine ⟨_, rfl, ?_⟩
 refine hK.out _ _ ⟨bc_ BK185 0, bc_ BK185 1, bc_ BK185 2, bc_ BK186 0, bc_ BK186 1, bc_ BK186 2⟩ (fun hHeld => ?_)
 clear hK K
 refine nm_ ?_
 refine one_ (i := 15) (N := some 20) (tf 16 2) rfl rfl (one_of HT_.out (by kernel_rfl)) (by decide) (fun K hK => ?_)
 refine Kd.R_lit_step (Kd.int .i64) _ 3 ?hg (N := 20) ?hd (xs := ([t187, t188, t189] : List Int)) (inner := [.int .i64 t187, .int .i64 t188, .int .i64 t189]) (ok := fun _ => True) (okp := fun _ => True) ?hr ?hp (fun _ hk => hk) trivial (Below.refl _ _) (Nat.le_refl _) (by simp) ?_; (case hd => rfl); (case hg => rfl); (case hr => first | (go_simp; done) | (go_simp; rfl)); (case hp => exact (Reps.one (show Kd.M (Kd.int .i64) _ _ _ t187 [.int .i64 t187] from rfl) (Reps.one (show Kd.M (Kd.int .i64) _ _ _ t188 [.int .i64 t188] from rfl) (Reps.one (show Kd.M (Kd.int .i64) _ _ _ t189 [.int .i64 t189] from rfl) (Reps.none _ _)))))
 intro v191 w10 ho11 hb hg_ hnew_
 clear hg_ hnew_
 (first | rw [← Ny190.out] at ho11 | (simp only [Int.reduceToNat] at ho11; rw [← Ny190.out] at ho11))
 have HO192 := Aside0.mk (Kd.R_lower ho11 (below_size bb_))
 replace BK185 := bkb_ BK185 hb
 replace BK186 := bkb_ BK186 hb
 replace HB := bs_ hb
 clear hb ho11
 obtain ⟨Ao12, co12, eo12⟩ := Kd.R_slice HO192.out
 (first | subst eo12 | (injection eo12 with f1_ f2_ f3_; have f4_ := f1_.symm; have f5_ := f3_.symm; clear f1_ f2_ f3_; subst f4_; subst f5_))
 refine hK.out _ _ ⟨bc_ BK185 0, bc_ BK185 1, bc_ BK185 2, bc_ BK186 0, bc_ BK186 1, bc_ BK186 2⟩ (fun hHeld => ?_)
 clear hK K
 refine nm_ ?_
 refine one_ (i := 16) (N := some 21) (tf 17 1) rfl rfl (one_of HT_.out (by kernel_rfl)) (by decide) (fun K hK => ?_)
 refine gs_ Tryd.func55 #[.slice Ao12 y190.length co12] ?_
 with_reducible refine (cmp_Or_int.calls k _ _ y190 t193 _ ?side1 ?side2 A6.out).mono ?_
 (case side1 => exact ck_ (Kd.R_reads' HO192.out).2.2)
 (case side2 => exact (Kd.R_reads' HO192.out).2.1)
 rintro e w' ⟨rfl, ⟨nd, rfl⟩⟩
 refine ⟨_, rfl, ?_⟩
 refine hK.out _ _ ⟨bc_ BK185 0, bc_ BK185 1, bc_ BK185 2, bc_ BK186 0, bc_ BK186 1, bc_ BK186 2⟩ (fun hHeld => ?_)
 clear hK K
 refine nm_ ?_
 refine plx_ 17 (tf 18 0) ?_
 refine done_ (done_of HT_.out (by kernel_rfl)) ?_
 try go_wp2
 go_ret
 exact ⟨er_, bb_⟩

/-! ### slices.CompareFunc[[]loop.example/g00312/impl.Value,[]loop.example/g00312/impl.Value,loop.example/g00312/impl.Value,loop.example/g00312/impl.Value]: function 129 -/
set_option maxHeartbeats 4000000 in
set_option maxRecDepth 100000 in
theorem CompareFunc_T29.calls (f : S29 → S29 → Option Int) (g : Nat) (lb : Array Value) (eg : ∀ args w, (callFunc g args).run Tryd.prog w = .ok (.enter g args) w) (A : Option Addr) (c : Nat) (xs : List S29) (B : Option Addr) (d : Nat) (ys : List S29) (r : Int) (w : World) (hr : Kd.C k29 w A xs.length xs) (hs : Kd.C k29 w B ys.length ys) (hp : CB2 Tryd.prog k29 (fun cs => Value.agg cs.toArray) g lb f xs ys w) (h : cmpO f xs ys = some r) :
  Calls Tryd.prog 129 #[.slice A xs.length c, .slice B ys.length d, .func (.func g) #[] lb] w fun e w' => e = .returned (.int .i64 r) ∧ Below w.heap.size w w' := by
 have hu := Tryd.underlying29
 have hbig : xs.length ≤ 9223372036854775807 := hr.2.1
 have HR := Aside0.mk hr
 have HS := Aside0.mk hs
 have HP := Aside0.mk hp
 have HX := Aside0.mk h
 clear hr hs hp h
 go_enter Tryd.func129, Tryd.ntmps129
 go_wp2
 go_loopg [13] xs.length (fun gg s13 wr => ∃ x : Int, s13 = .int .i64 x ∧ Aside0 (0 ≤ x ∧ x ≤ xs.length ∧ x ≤ ys.length ∧ xs.length - x.toNat ≤ gg ∧ cmpO f (xs.drop x.toNat) (ys.drop x.toNat) = some r ∧ Below w.heap.size w wr))
 case atStart => exact ⟨0, rfl, ⟨by omega, by omega, by omega, by simp, by simpa using HX.out, Below.refl _ _⟩⟩
 case round =>
  obtain ⟨x, rfl, HI⟩ := hrel
  obtain ⟨x0, x1, x2, hg, hi, BW⟩ := HI.out
  by_cases hlt : x < (xs.length : Int)
  ·have c4 : decide (x < (xs.length : Int)) = true := decide_eq_true hlt
   have c5 : decide (0 ≤ x) = true := decide_eq_true x0
   obtain ⟨ad, cs, rfl, hl, hK, hcella⟩ := Kd.C_get (Kd.C_below HR.out BW) (z29 : S29) x x0 hlt
   by_cases hlt2 : x < (ys.length : Int)
   ·have c6 : decide (x < (ys.length : Int)) = true := decide_eq_true hlt2
    have c7 : decide ((ys.length : Int) ≤ x) = false := decide_eq_false (by omega)
    obtain ⟨ae, ds, rfl, hm, hL, hcellb⟩ := Kd.C_get (Kd.C_below HS.out BW) (z29 : S29) x x0 hlt2
    obtain ⟨b, hb, hxm, hym, ht, hf⟩ := cmpO_step (z29 : S29) x0 hlt hlt2 hi
    generalize xs.getD x.toNat (z29 : S29) = p at hK hb hxm
    generalize ys.getD x.toNat (z29 : S29) = q at hL hb hym
    obtain rfl := k29_open hK
    obtain rfl := k29_open hL
    replace hcella : ∀ j u, ([(.int .i64 p.f0), (.int .i64 p.f1), (.string p.f2)] : List Value)[j]? = some u → wr.cell? (ad.add (x.toNat * 3 + j)) = some u := hcella
    have hca0 : wr.cell? (ad.add (x.toNat * 3)) = some (.int .i64 p.f0) := hcella 0 _ rfl
    have hca1 : wr.cell? ⟨(ad.add (x.toNat * 3)).block, (ad.add (x.toNat * 3)).off + 1, none⟩ = some (.int .i64 p.f1) := by rw [← add_field _ _ 1 (by omega)]; exact hcella 1 _ rfl
    have hca2 : wr.cell? ⟨(ad.add (x.toNat * 3)).block, (ad.add (x.toNat * 3)).off + 2, none⟩ = some (.string p.f2) := by rw [← add_field _ _ 2 (by omega)]; exact hcella 2 _ rfl
    replace hcellb : ∀ j u, ([(.int .i64 q.f0), (.int .i64 q.f1), (.string q.f2)] : List Value)[j]? = some u → wr.cell? (ae.add (x.toNat * 3 + j)) = some u := hcellb
    have hcb0 : wr.cell? (ae.add (x.toNat * 3)) = some (.int .i64 q.f0) := hcellb 0 _ rfl
    have hcb1 : wr.cell? ⟨(ae.add (x.toNat * 3)).block, (ae.add (x.toNat * 3)).off + 1, none⟩ = some (.int .i64 q.f1) := by rw [← add_field _ _ 1 (by omega)]; exact hcellb 1 _ rfl
    have hcb2 : wr.cell? ⟨(ae.add (x.toNat * 3)).block, (ae.add (x.toNat * 3)).off + 2, none⟩ = some (.string q.f2) := by rw [← add_field _ _ 2 (by omega)]; exact hcellb 2 _ rfl
    have hcall : ∀ W, Below wr.heap.size wr W → Calls Tryd.prog g (#[(.agg #[(.int .i64 p.f0), (.int .i64 p.f1), (.string p.f2)]), (.agg #[(.int .i64 q.f0), (.int .i64 q.f1), (.string q.f2)])] ++ lb) W fun e w' => e = .returned (.int .i64 b) ∧ Below W.heap.size W w' := fun W hW => HP.out W _ _ _ _ b (BW.trans (hW.mono BW.size)) hxm hym (Kd.K_below _ hW hK) (Kd.K_below _ hW hL) hb
    have HC := Aside0.mk hcall
    have hd0 := fun o : Obj => cell_alloc_old o hcb0
    have hd1 := fun o : Obj => cell_alloc_old o hcb1
    have hd2 := fun o : Obj => cell_alloc_old o hcb2
    have hz1 : wr.heap.size ≠ wr.heap.size + 1 := by omega
    have hz2 : wr.heap.size + 1 ≠ wr.heap.size := by omega
    have HA := Aside0.mk (Addr_lt hca0)
    have HB := Aside0.mk (Addr_lt hcb0)
    have hn1 : (ad.add (x.toNat * 3)).block ≠ wr.heap.size := Nat.ne_of_lt HA.out
    have hn2 : (ae.add (x.toNat * 3)).block ≠ wr.heap.size := Nat.ne_of_lt HB.out
    by_cases hb0 : b = 0
    ·subst hb0
     have HJ := Aside0.mk (And.intro hg (And.intro (hf rfl) BW))
     clear hcella hcellb hK hL hb hxm hym ht hf hi BW HI hg hl hm hcall
     go_wp2_with (go_at_fn g; refine (HC.out _ ?_).mono ?_; (repeat (first | exact Below.refl _ _ | apply below_alloc | (refine below_set ?_ (by simp)))); rintro e w' ⟨rfl, hb'⟩)
     go_roundg (xs.length - (x.toNat + 1))
     case measure => have := HJ.out.1; omega
     case rel => exact ⟨x + 1, by go_num, ⟨by omega, by omega, by omega, by omega, HJ.out.2.1, HJ.out.2.2.trans (((show Below wr.heap.size wr _ from by repeat (first | exact Below.refl _ _ | apply below_alloc | (refine below_set ?_ (by simp)))).trans (hb'.mono (by simp <;> omega))).mono HJ.out.2.2.size)⟩⟩
    ·have hb1 : (b == 0) = false := beq_eq_false_iff_ne.mpr hb0
     have hb2 : (b != 0) = true := bne_iff_ne.mpr hb0
     have HJ := Aside0.mk (And.intro (ht hb0) BW)
     clear hcella hcellb hK hL hb hxm hym ht hf hi BW HI hg hl hm hcall
     go_wp2_with (go_at_fn g; refine (HC.out _ ?_).mono ?_; (repeat (first | exact Below.refl _ _ | apply below_alloc | (refine below_set ?_ (by simp)))); rintro e w' ⟨rfl, hb'⟩)
     go_ret
     exact ⟨ret_int_eq HJ.out.1.symm, HJ.out.2.trans (((show Below wr.heap.size wr _ from by repeat (first | exact Below.refl _ _ | apply below_alloc | (refine below_set ?_ (by simp)))).trans (hb'.mono (by simp <;> omega))).mono HJ.out.2.size)⟩
   ·have c7 : decide ((ys.length : Int) ≤ x) = true := decide_eq_true (by omega)
    have hr1 : r = 1 := cmpO_right hlt hlt2 x0 hi
    subst hr1
    generalize xs.getD x.toNat (z29 : S29) = p at hK
    obtain rfl := k29_open hK
    replace hcella : ∀ j u, ([(.int .i64 p.f0), (.int .i64 p.f1), (.string p.f2)] : List Value)[j]? = some u → wr.cell? (ad.add (x.toNat * 3 + j)) = some u := hcella
    have hca0 : wr.cell? (ad.add (x.toNat * 3)) = some (.int .i64 p.f0) := hcella 0 _ rfl
    have hca1 : wr.cell? ⟨(ad.add (x.toNat * 3)).block, (ad.add (x.toNat * 3)).off + 1, none⟩ = some (.int .i64 p.f1) := by rw [← add_field _ _ 1 (by omega)]; exact hcella 1 _ rfl
    have hca2 : wr.cell? ⟨(ad.add (x.toNat * 3)).block, (ad.add (x.toNat * 3)).off + 2, none⟩ = some (.string p.f2) := by rw [← add_field _ _ 2 (by omega)]; exact hcella 2 _ rfl
    have HJ := Aside0.mk BW
    clear hcella hK hi BW HI hg hl
    go_wp2
    go_ret
    exact ⟨rfl, HJ.out.trans ((show Below wr.heap.size wr _ from by repeat (first | exact Below.refl _ _ | apply below_alloc | (refine below_set ?_ (by simp)))).mono HJ.out.size)⟩
  ·have c4 : decide (x < (xs.length : Int)) = false := decide_eq_false hlt
   by_cases hlt2 : x < (ys.length : Int)
   ·have c6 : decide ((xs.length : Int) < (ys.length : Int)) = true := decide_eq_true (by omega)
    have c8 : xs.length < ys.length := by omega
    have hr1 : r = -1 := cmpO_left hlt hlt2 x0 hi
    subst hr1
    clear hi HI
    go_wp2
    go_ret
    exact ⟨rfl, BW⟩
   ·have c6 : decide ((xs.length : Int) < (ys.length : Int)) = false := decide_eq_false (by omega)
    have c8 : ¬ xs.length < ys.length := by omega
    have hr1 : r = 0 := cmpO_end hlt hlt2 hi
    subst hr1
    clear hi HI
    go_wp2
    go_ret
    exact ⟨rfl, BW⟩

/-! ### impl_CompareRow: function 104 -/
-- by hand
def impl_CompareRow.f (k : Nat) (l0 l1 : List S29) : Option Int := cmpO (fun x y => impl_CompareValue.f k x.f0 x.f1 x.f2 y.f0 y.f1 y.f2) l0 l1
theorem cmpO_mono {α : Type} {f g : α → α → Option Int} (h : ∀ x y, LeO (f x y) (g x y)) : ∀ l0 l1, LeO (cmpO f l0 l1) (cmpO g l0 l1)
  | [], [] => LeO.refl _
  | [], _ :: _ => LeO.refl _
  | _ :: _, [] => LeO.refl _
  | x :: xs, y :: ys => LeO.bind (h x y) fun c => LeO.ite (cmpO_mono h xs ys) (LeO.refl _)
theorem impl_CompareRow.calls (k : Nat) (A0 : Option Addr) (c0 : Nat) (l0 : List (S29)) (A1 : Option Addr) (c1 : Nat) (l1 : List (S29)) (r : Int) (w : World) (hr0 : Kd.C k29 w A0 l0.length l0) (hc0 : l0.length ≤ c0) (hr1 : Kd.C k29 w A1 l1.length l1) (hc1 : l1.length ≤ c1) (h : impl_CompareRow.f k l0 l1 = some r) :
    Calls Tryd.prog 104 #[.slice A0 l0.length c0, .slice A1 l1.length c1] w fun e w' => e = .returned (.int .i64 r) ∧ Below w.heap.size w w' := by
  have eg : ∀ args w, (callFunc 14 args).run Tryd.prog w = .ok (.enter 14 args) w := enters_of Tryd.func14 (by kernel_rfl) rfl
  have hcall := CompareFunc_T29.calls _ 14 #[] eg A0 c0 l0 A1 c1 l1 r w hr0 hr1 (fun W x y cs ds b hb _ _ hK hL hf => by
    obtain rfl := k29_open hK
    obtain rfl := k29_open hL
    exact impl_CompareValue.calls k _ _ _ _ _ _ b W hf) h
  clear hr0 hr1 h
  go_enter Tryd.func104, Tryd.ntmps104
  go_wp2_with (go_at_call 129; refine hcall.mono ?_; rintro e w' ⟨rfl, hb'⟩)
  go_ret
  exact ⟨rfl, hb'⟩


end Go.Proofs.YthgdmdabdlgliaaDoor.PFnExactBagText
