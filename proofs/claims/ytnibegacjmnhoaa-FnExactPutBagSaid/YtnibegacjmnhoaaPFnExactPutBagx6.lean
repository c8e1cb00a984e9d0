-- WRITTEN BY xprint.py, a program of this session over the kit's printer: by nobody's hand
-- PRESSED
import Derived.Test.YtnibegacjmnhoaaPress
import Derived.Test.YtnibegacjmnhoaaPFnExactPutBagx0
import Derived.Test.YtnibegacjmnhoaaPFnExactPutBagx5
namespace Go.Proofs.Ytnibegacjmnhoaa.PFnExactPutBag
open Go.RowKit Go.Proofs.YtnibegacjmnhoaaW.PrintWords Go.Proofs.YtnibegacjmnhoaaW.PrintLast Go.Proofs.YtnibegacjmnhoaaW.PrintMore
set_option linter.unusedVariables false
set_option linter.unusedSimpArgs false

/-! ### impl_CompareValue: function 52 -/
def impl_CompareValue.f (k : Nat) (a0_0 : Int) (a0_1 : Int) (a0_2 : ByteArray) (a1_0 : Int) (a1_1 : Int) (a1_2 : ByteArray) : Option (Int) := (cmp_Compare_int.f a0_0 a1_0).bind fun t180 => ((cmp_Compare_int.f a0_1 a1_1).bind fun t181 => ((strings_Compare.f a0_2 a1_2).bind fun t182 => ((cmp_Or_int.f k (([t180, t181, t182] : List Int))).bind fun t186 => (some t186))))
def impl_CompareValue.T1 : Bool × List (List Nat × List Nat) := (true, [([], []), ([0], [0]), ([], []), ([2], [2]), ([1, 3], [1, 3]), ([], []), ([5], [5]), ([], []), ([7], [7]), ([6, 8, 4], [6, 8]), ([], []), ([10], [10]), ([], []), ([12], [12]), ([11, 13, 9], [11, 13]), ([4, 9, 14], [4, 9, 14]), ([15, 14], [15]), ([16, 16, 0, 1, 2, 3, 4, 5, 6, 7, 8, 9, 10, 11, 12, 13, 14, 15, 16], [16])])
def impl_CompareValue.B1 : List Nat := [0, 1, 0, 4, 15, 0, 32, 0, 128, 511, 0, 1024, 0, 4096, 16383, 32767, 65535, 131071]
theorem impl_CompareValue.tab1 : rtab .any (opsOf Try.f52 1) = impl_CompareValue.T1 := by kernel_rfl
theorem impl_CompareValue.bits1 : waitsOk impl_CompareValue.T1.2 impl_CompareValue.B1 = true := by kernel_rfl
set_option maxHeartbeats 8000000 in
set_option maxRecDepth 100000 in
theorem impl_CompareValue.calls (k : Nat) (a0_0 : Int) (a0_1 : Int) (a0_2 : ByteArray) (a1_0 : Int) (a1_1 : Int) (a1_2 : ByteArray) (r : Int) (w : World) (h : impl_CompareValue.f k a0_0 a0_1 a0_2 a1_0 a1_1 a1_2 = some r) :
  Calls Try.prog 52 #[.agg #[.int .i64 a0_0, .int .i64 a0_1, .string a0_2], .agg #[.int .i64 a1_0, .int .i64 a1_1, .string a1_2]] w fun e w' => e = .returned (.int .i64 r) ∧ Below w.heap.size w w' := by
 have hu42 := Try.underlying42
 have HB := Aside0.mk (Below.refl w.heap.size w)
 have H : ((cmp_Compare_int.f a0_0 a1_0).bind fun t180 => ((cmp_Compare_int.f a0_1 a1_1).bind fun t181 => ((strings_Compare.f a0_2 a1_2).bind fun t182 => ((cmp_Or_int.f k (([t180, t181, t182] : List Int))).bind fun t186 => (some t186))))) = some r := h
 clear h
 replace H := Option.bind_eq_some_iff.mp H
 obtain ⟨t180, A30, H⟩ := H
 replace H : ((cmp_Compare_int.f a0_1 a1_1).bind fun t181 => ((strings_Compare.f a0_2 a1_2).bind fun t182 => ((cmp_Or_int.f k (([t180, t181, t182] : List Int))).bind fun t186 => (some t186)))) = some r := H
 have A3 := Aside0.mk A30
 clear A30
 replace H := Option.bind_eq_some_iff.mp H
 obtain ⟨t181, A40, H⟩ := H
 replace H : ((strings_Compare.f a0_2 a1_2).bind fun t182 => ((cmp_Or_int.f k (([t180, t181, t182] : List Int))).bind fun t186 => (some t186))) = some r := H
 have A4 := Aside0.mk A40
 clear A40
 replace H := Option.bind_eq_some_iff.mp H
 obtain ⟨t182, A50, H⟩ := H
 replace H : ((cmp_Or_int.f k (([t180, t181, t182] : List Int))).bind fun t186 => (some t186)) = some r := H
 have A5 := Aside0.mk A50
 clear A50
 obtain ⟨y183, hy183⟩ : ∃ y_ : List Int, y_ = (([t180, t181, t182] : List Int)) := ⟨_, rfl⟩
 replace H : ((cmp_Or_int.f k y183).bind fun t186 => (some t186)) = some r := by first | (rw [hy183]; with_reducible exact H) | (have H2_ := (Option.bind_some _ _).symm.trans H; rw [hy183]; with_reducible exact H2_) | (have H2_ := (Option.bind_some _ _).symm.trans H; with_reducible exact H2_) | with_reducible exact H | (rw [hy183]; exact H) | exact H
 have Ny183 := Aside0.mk hy183
 clear hy183
 replace H := Option.bind_eq_some_iff.mp H
 obtain ⟨t186, A60, H⟩ := H
 replace H : (some t186) = some r := H
 have A6 := Aside0.mk A60
 clear A60
 obtain rfl := Option.some.inj H
 go_enter Try.func52, Try.ntmps52
 try go_wp2_with (first | ((with_reducible refine gate_dst (N := 2) rfl ?_); refine bx_ 2 #[.int .i64 a0_0, .int .i64 a0_1, .string a0_2] 42 ?_; intro gb178 hg w7 hbox hb; have BK178 := Aside0.mk (hbox); have GW178 := gw_ hg; have GE178 := gw_ hg; replace HB := bs_ hb; clear hb hbox hg) | ((with_reducible refine gate_dst (N := 3) rfl ?_); refine bx_ 3 #[.int .i64 a1_0, .int .i64 a1_1, .string a1_2] 42 ?_; intro gb179 hg w8 hbox hb; have BK179 := Aside0.mk (hbox); have GW179 := gw_ hg; have GE179 := gw_ hg; have NB178_179 := nl_ hg BK178; have NB179_178 := ng_ hg BK178; replace BK178 := bkb_ BK178 hb; replace HB := bs_ hb; clear hb hbox hg))
 replace BK178 := Aside0.mk (blk_drew BK178.out)
 replace BK179 := Aside0.mk (blk_drew BK179.out)
 replace HB := Aside0.mk (below_drew1 HB.out)
 refine start_ (n := 18) (S := fun w' => w'.cell? ⟨gb178, 0, none⟩ = some (.int .i64 a0_0) ∧ w'.cell? ⟨gb178, 1, none⟩ = some (.int .i64 a0_1) ∧ w'.cell? ⟨gb178, 2, none⟩ = some (.string a0_2) ∧ w'.cell? ⟨gb179, 0, none⟩ = some (.int .i64 a1_0) ∧ w'.cell? ⟨gb179, 1, none⟩ = some (.int .i64 a1_1) ∧ w'.cell? ⟨gb179, 2, none⟩ = some (.string a1_2)) (ds := []) (tf 0 18) (by kernel_rfl) rfl rfl ⟨bc_ BK178 0, bc_ BK178 1, bc_ BK178 2, bc_ BK179 0, bc_ BK179 1, bc_ BK179 2⟩ (fun hHeld => ?_); refine with_tabW impl_CompareValue.tab1 impl_CompareValue.bits1 (fun HT_ HW_ => ?_)
 generalize w8.drew = w9 at BK178 BK179 HB hHeld ⊢
 refine pl_ ?_
 refine plx_ 2 #[true, false, true, false, false, false, false, false, false, false, false, false, false, false, false, false, false, false] ?_
 refine plx_ 5 #[true, false, true, false, false, true, false, false, false, false, false, false, false, false, false, false, false, false] ?_
 refine plx_ 7 #[true, false, true, false, false, true, false, true, false, false, false, false, false, false, false, false, false, false] ?_
 refine plx_ 10 #[true, false, true, false, false, true, false, true, false, false, true, false, false, false, false, false, false, false] ?_
 refine plx_ 12 #[true, false, true, false, false, true, false, true, false, false, true, false, true, false, false, false, false, false] ?_
 refine tlx_ 1 #[true, true, true, false, false, true, false, true, false, false, true, false, true, false, false, false, false, false] ?_
 refine tlx_ 3 #[true, true, true, true, false, true, false, true, false, false, true, false, true, false, false, false, false, false] ?_
 refine tlx_ 6 #[true, true, true, true, false, true, true, true, false, false, true, false, true, false, false, false, false, false] ?_
 refine tlx_ 8 #[true, true, true, true, false, true, true, true, true, false, true, false, true, false, false, false, false, false] ?_
 refine tlx_ 11 #[true, true, true, true, false, true, true, true, true, false, true, true, true, false, false, false, false, false] ?_
 refine tlx_ 13 #[true, true, true, true, false, true, true, true, true, false, true, true, true, true, false, false, false, false] ?_
 refine one_ (i := 4) (N := some 9) #[true, true, true, true, true, true, true, true, true, false, true, true, true, true, false, false, false, false] rfl rfl (one_of HT_.out (by kernel_rfl)) (by decide) (fun K hK => ?_)
 refine gs_ Try.func61 #[.int .i64 a0_0, .int .i64 a1_0] ?_
 with_reducible refine (cmp_Compare_int.calls a0_0 a1_0 t180 _ A3.out).mono ?_
 rintro e w' ⟨rfl, ⟨nd, rfl⟩⟩
 refine ⟨_, rfl, ?_⟩
 refine hK.out _ _ ⟨bc_ BK178 0, bc_ BK178 1, bc_ BK178 2, bc_ BK179 0, bc_ BK179 1, bc_ BK179 2⟩ (fun hHeld => ?_)
 clear hK K
 refine nm_ ?_
 refine one_ (i := 9) (N := some 14) (tf 14 4) rfl rfl (one_of HT_.out (by kernel_rfl)) (by decide) (fun K hK => ?_)
 refine gs_ Try.func61 #[.int .i64 a0_1, .int .i64 a1_1] ?_
 with_reducible refine (cmp_Compare_int.calls a0_1 a1_1 t181 _ A4.out).mono ?_
 rintro e w' ⟨rfl, ⟨nd, rfl⟩⟩
 refine ⟨_, rfl, ?_⟩
 refine hK.out _ _ ⟨bc_ BK178 0, bc_ BK178 1, bc_ BK178 2, bc_ BK179 0, bc_ BK179 1, bc_ BK179 2⟩ (fun hHeld => ?_)
 clear hK K
 refine nm_ ?_
 refine one_ (i := 14) (N := some 19) (tf 15 3) rfl rfl (one_of HT_.out (by kernel_rfl)) (by decide) (fun K hK => ?_)
 refine gs_ Try.func62 #[.string a0_2, .string a1_2] ?_
 with_reducible refine (strings_Compare.calls a0_2 a1_2 t182 _ A5.out).mono ?_
 rintro e w' ⟨rfl, ⟨nd, rfl⟩⟩
 refine ⟨_, rfl, ?_⟩
 refine hK.out _ _ ⟨bc_ BK178 0, bc_ BK178 1, bc_ BK178 2, bc_ BK179 0, bc_ BK179 1, bc_ BK179 2⟩ (fun hHeld => ?_)
 clear hK K
 refine nm_ ?_
 refine one_ (i := 15) (N := some 20) (tf 16 2) rfl rfl (one_of HT_.out (by kernel_rfl)) (by decide) (fun K hK => ?_)
 refine Kd.R_lit_step (Kd.int .i64) _ 3 ?hg (N := 20) ?hd (xs := ([t180, t181, t182] : List Int)) (inner := [.int .i64 t180, .int .i64 t181, .int .i64 t182]) (ok := fun _ => True) (okp := fun _ => True) ?hr ?hp (fun _ hk => hk) trivial (Below.refl _ _) (Nat.le_refl _) (by simp) ?_; (case hd => rfl); (case hg => rfl); (case hr => first | (go_simp; done) | (go_simp; rfl)); (case hp => exact (Reps.one (show Kd.M (Kd.int .i64) _ _ _ t180 [.int .i64 t180] from rfl) (Reps.one (show Kd.M (Kd.int .i64) _ _ _ t181 [.int .i64 t181] from rfl) (Reps.one (show Kd.M (Kd.int .i64) _ _ _ t182 [.int .i64 t182] from rfl) (Reps.none _ _)))))
 intro v184 w10 ho11 hb hg_ hnew_
 clear hg_ hnew_
 (first | rw [← Ny183.out] at ho11 | (simp only [Int.reduceToNat] at ho11; rw [← Ny183.out] at ho11))
 have HO185 := Aside0.mk (Kd.R_lower ho11 (below_size bb_))
 replace BK178 := bkb_ BK178 hb
 replace BK179 := bkb_ BK179 hb
 replace HB := bs_ hb
 clear hb ho11
 obtain ⟨Ao12, co12, eo12⟩ := Kd.R_slice HO185.out
 (first | subst eo12 | (injection eo12 with f1_ f2_ f3_; have f4_ := f1_.symm; have f5_ := f3_.symm; clear f1_ f2_ f3_; subst f4_; subst f5_))
 refine hK.out _ _ ⟨bc_ BK178 0, bc_ BK178 1, bc_ BK178 2, bc_ BK179 0, bc_ BK179 1, bc_ BK179 2⟩ (fun hHeld => ?_)
 clear hK K
 refine nm_ ?_
 refine one_ (i := 16) (N := some 21) (tf 17 1) rfl rfl (one_of HT_.out (by kernel_rfl)) (by decide) (fun K hK => ?_)
 refine gs_ Try.func60 #[.slice Ao12 y183.length co12] ?_
 with_reducible refine (cmp_Or_int.calls k _ _ y183 t186 _ ?side1 ?side2 A6.out).mono ?_
 (case side1 => exact ck_ (Kd.R_reads' HO185.out).2.2)
 (case side2 => exact (Kd.R_reads' HO185.out).2.1)
 rintro e w' ⟨rfl, ⟨nd, rfl⟩⟩
 refine ⟨_, rfl, ?_⟩
 refine hK.out _ _ ⟨bc_ BK178 0, bc_ BK178 1, bc_ BK178 2, bc_ BK179 0, bc_ BK179 1, bc_ BK179 2⟩ (fun hHeld => ?_)
 clear hK K
 refine nm_ ?_
 refine plx_ 17 (tf 18 0) ?_
 refine done_ (done_of HT_.out (by kernel_rfl)) ?_
 try go_wp2
 go_ret
 exact ⟨er_, bb_⟩

/-! ### impl_CompareRow: function 39 -/
-- by hand
def impl_CompareRow.f (k : Nat) (l0 l1 : List S42) : Option Int := cmpO (fun x y => impl_CompareValue.f k x.f0 x.f1 x.f2 y.f0 y.f1 y.f2) l0 l1
theorem cmpO_mono {α : Type} {f g : α → α → Option Int} (h : ∀ x y, LeO (f x y) (g x y)) : ∀ l0 l1, LeO (cmpO f l0 l1) (cmpO g l0 l1)
  | [], [] => LeO.refl _
  | [], _ :: _ => LeO.refl _
  | _ :: _, [] => LeO.refl _
  | x :: xs, y :: ys => LeO.bind (h x y) fun c => LeO.ite (cmpO_mono h xs ys) (LeO.refl _)
theorem impl_CompareRow.calls (k : Nat) (A0 : Option Addr) (c0 : Nat) (l0 : List (S42)) (A1 : Option Addr) (c1 : Nat) (l1 : List (S42)) (r : Int) (w : World) (hr0 : Kd.C k42 w A0 l0.length l0) (hc0 : l0.length ≤ c0) (hr1 : Kd.C k42 w A1 l1.length l1) (hc1 : l1.length ≤ c1) (h : impl_CompareRow.f k l0 l1 = some r) :
    Calls Try.prog 39 #[.slice A0 l0.length c0, .slice A1 l1.length c1] w fun e w' => e = .returned (.int .i64 r) ∧ Below w.heap.size w w' := by
  have eg : ∀ args w, (callFunc 52 args).run Try.prog w = .ok (.enter 52 args) w := enters_of Try.func52 (by kernel_rfl) rfl
  have hcall := CompareFunc_T42.calls _ 52 #[] eg A0 c0 l0 A1 c1 l1 r w hr0 hr1 (fun W x y cs ds b hb _ _ hK hL hf => by
    obtain rfl := k42_open hK
    obtain rfl := k42_open hL
    exact impl_CompareValue.calls k _ _ _ _ _ _ b W hf) h
  clear hr0 hr1 h
  go_enter Try.func39, Try.ntmps39
  go_wp2_with (go_at_call 51; refine hcall.mono ?_; rintro e w' ⟨rfl, hb'⟩)
  go_ret
  exact ⟨rfl, hb'⟩


end Go.Proofs.Ytnibegacjmnhoaa.PFnExactPutBag
