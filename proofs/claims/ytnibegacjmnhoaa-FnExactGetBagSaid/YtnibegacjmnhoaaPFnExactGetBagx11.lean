-- WRITTEN BY xprint.py, a program of this session over the kit's printer: by nobody's hand
-- PRESSED
import Derived.Test.YtnibegacjmnhoaaPress
import Derived.Test.YtnibegacjmnhoaaPFnExactGetBagx0
import Derived.Test.YtnibegacjmnhoaaPFnExactGetBagx9
import Derived.Test.YtnibegacjmnhoaaPFnExactGetBagx10
namespace Go.Proofs.Ytnibegacjmnhoaa.PFnExactGetBag
open Go.RowKit Go.Proofs.YtnibegacjmnhoaaW.PrintWords Go.Proofs.YtnibegacjmnhoaaW.PrintLast Go.Proofs.YtnibegacjmnhoaaW.PrintMore
set_option linter.unusedVariables false
set_option linter.unusedSimpArgs false

/-! ### impl_GetBag: function 11 -/
-- by hand
mutual
def impl_GetBag.j0 : Nat → ByteArray → Bool → ByteArray → Int → Bool → Int → Option (Int × (List (S46)) × Bool × ByteArray × Int × Bool)
 | 0, _, _, _, _, _, _ => none
 | k + 1, x0, x22, x2000, x2001, x2002, x235000 => if x22 = true then (some (0, ([] : List (S46)), false, x2000, x2001, x2002)) else (impl_GetBag.l0 k x0 x2000 x2001 x2002 x235000 ([] : List (S46)))
def impl_GetBag.l0 : Nat → ByteArray → ByteArray → Int → Bool → Int → List (S46) → Option (Int × (List (S46)) × Bool × ByteArray × Int × Bool)
 | 0, _, _, _, _, _, _ => none
 | k + 1, x0, x2000, x2001, x2002, x235000, x235001 => if x2002 = true then (impl_GetBag.j2 k x0 false x2000 x2001 x2002 x235000 x235001) else (impl_GetBag.j2 k x0 (decide (x2001 < (x0.size : Int))) x2000 x2001 x2002 x235000 x235001)
def impl_GetBag.j2 : Nat → ByteArray → Bool → ByteArray → Int → Bool → Int → List (S46) → Option (Int × (List (S46)) × Bool × ByteArray × Int × Bool)
 | 0, _, _, _, _, _, _, _ => none
 | k + 1, x0, x37, x2000, x2001, x2002, x235000, x235001 => if x37 = true then ((impl_reader_value.f x2000 x2001 x2002).bind fun bt236 => (if bt236.1 = 1 then (impl_GetBag.l1 k x0 x235000 0 bt236.2.2.2.1 bt236.2.2.2.2.1 bt236.2.2.2.2.2 x235000 x235001 ([] : List (S42)) bt236.2.1) else (some (0, ([] : List (S46)), false, bt236.2.2.2.1, bt236.2.2.2.2.1, bt236.2.2.2.2.2)))) else (if x2002 = true then (some (0, ([] : List (S46)), false, x2000, x2001, x2002)) else ((impl_BagOk.f k x235000 x235001).bind fun t235 => (if t235 = true then (some (x235000, x235001, true, x2000, x2001, x2002)) else (some (0, ([] : List (S46)), false, x2000, x2001, x2002)))))
def impl_GetBag.l1 : Nat → ByteArray → Int → Int → ByteArray → Int → Bool → Int → List (S46) → List (S42) → Int → Option (Int × (List (S46)) × Bool × ByteArray × Int × Bool)
 | 0, _, _, _, _, _, _, _, _, _, _ => none
 | k + 1, x0, x48, x49, x2000, x2001, x2002, x235000, x235001, x244000, x244001 => if x49 < x48 then ((impl_reader_value.f x2000 x2001 x2002).bind fun bt244 => (if x244000.length < 4398046511104 then (impl_GetBag.l1 k x0 x48 (wrap64 (x49 + 1)) bt244.2.2.2.1 bt244.2.2.2.2.1 bt244.2.2.2.2.2 x235000 x235001 (x244000 ++ [(⟨bt244.1, bt244.2.1, bt244.2.2.1⟩ : S42)]) x244001) else (none))) else (if x235001.length < 4398046511104 then (impl_GetBag.l0 k x0 x2000 x2001 x2002 x235000 (x235001 ++ [(⟨x244000, x244001⟩ : S46)])) else (none))
end
def impl_GetBag.r (k : Nat) (a0 : ByteArray) (s1_0 : ByteArray) (s1_1 : Int) (s1_2 : Bool) : Option (Int × (List (S46)) × Bool × ByteArray × Int × Bool) := (impl_reader_size.f s1_0 s1_1 s1_2 1).bind fun bt230 => (if bt230.2.2.2 = true then (impl_GetBag.j0 k a0 true bt230.2.1 bt230.2.2.1 bt230.2.2.2 bt230.1) else (impl_GetBag.j0 k a0 (decide (bt230.1 > 12)) bt230.2.1 bt230.2.2.1 bt230.2.2.2 bt230.1))
def impl_GetBag.T12 : Bool × List (List Nat × List Nat) := (true, [([], []), ([0], [0]), ([], []), ([2], [2]), ([3], [3]), ([1, 4, 3], [1, 4]), ([0, 1, 2, 3, 4, 5], []), ([6, 5, 5, 0, 1, 2, 3, 4, 5], [5, 6])])
def impl_GetBag.B12 : List Nat := [0, 1, 0, 4, 12, 31, 63, 127]
theorem impl_GetBag.tab12 : rtab .any (opsOf Try.f11 12) = impl_GetBag.T12 := by kernel_rfl
theorem impl_GetBag.bits12 : waitsOk impl_GetBag.T12.2 impl_GetBag.B12 = true := by kernel_rfl
def impl_GetBag.f (k : Nat) (a0 : ByteArray) : Option (Int × (List (S46)) × Bool) := (impl_GetBag.r k a0 a0 0 false).bind fun b => some (b.1, b.2.1, b.2.2.1)
theorem isRd {w W : World} {g : Nat} {s : ByteArray} {n : Int} {b : Bool} (h : W.heap[g]? = some (.cells #[.string s, .int .i64 n, .bool b] 62 (0, 0))) (hg : w.heap.size ≤ g) : IsS62 w W g s n b := ⟨h, hg⟩
set_option maxHeartbeats 8000000 in
set_option maxRecDepth 100000 in
theorem impl_GetBag.calls_ (k : Nat) (a0 : ByteArray) (r1 : Int) (r2 : List (S46)) (r3 : Bool) (r4 : ByteArray) (r5 : Int) (r6 : Bool) (w : World) (h : impl_GetBag.r k a0 a0 0 false = some (r1, r2, r3, r4, r5, r6)) :
  Calls Try.prog 11 #[.string a0] w fun e w' => ∃ (g : Nat) (v1_ : Value), e = .returned (.tuple #[.agg #[.int .i64 r1, v1_], .bool r3]) ∧ Kd.S k46 46 w' w.heap.size (fun _ => True) v1_ r2 ∧ IsS62 w w' g r4 r5 r6 ∧ Below w.heap.size w w' ∧ KeepBut w w' g none := by
 have HL := Aside0.mk (Nat.le_refl w.heap.size)
 have HW0 := Aside0.mk (Nat.le_refl w.heap.size)
 have HB := Aside0.mk (Below.refl w.heap.size w)
 have hu29 := Try.underlying29
 have hu42 := Try.underlying42
 have hu46 := Try.underlying46
 have H : ((impl_reader_size.f a0 0 false 1).bind fun bt230 => (if bt230.2.2.2 = true then (impl_GetBag.j0 k a0 true bt230.2.1 bt230.2.2.1 bt230.2.2.2 bt230.1) else (impl_GetBag.j0 k a0 (decide (bt230.1 > 12)) bt230.2.1 bt230.2.2.1 bt230.2.2.2 bt230.1))) = some (r1, r2, r3, r4, r5, r6) := h
 clear h
 replace H := Option.bind_eq_some_iff.mp H
 obtain ⟨⟨t230, t231, t232, t233⟩, A30, H⟩ := H
 replace H : (if t233 = true then (impl_GetBag.j0 k a0 true t231 t232 t233 t230) else (impl_GetBag.j0 k a0 (decide (t230 > 12)) t231 t232 t233 t230)) = some (r1, r2, r3, r4, r5, r6) := H
 have A3 := Aside0.mk A30
 clear A30
 have HC4 := Aside0.mk H
 clear H
 go_enter Try.func11, Try.ntmps11
 go_upto_region 3 with (first | ((with_reducible refine gate_dst (N := 2) rfl ?_); refine bx_ 2 #[.int .i64 0, .slice none 0 0] 29 ?_; intro gb229 hg w5 hbox hb; have GW229 := gw_ hg; have GE229 := gw_ hg; replace HB := bs_ hb; have BK229 := Aside0.mk hbox; clear hb hbox hg) | ((with_reducible refine gate_dst (N := 10) rfl ?_); refine bx_ 10 #[.string a0, .int .i64 0, .bool false] 62 ?_; intro g hg wr_ hbox hb; have NB229_g := nl_ hg BK229; have NBg_229 := ng_ hg BK229; have NB1_229 := Aside0.mk (Ne.symm NB229_g.out); have NB229_1 := NB229_g; have HI1 := Aside0.mk (isRd hbox (gw_ hg).out); replace BK229 := bkb_ BK229 hb; replace HB := bs_ hb; have HK := Aside0.mk (KeepBut.of_below HB.out g none); clear NB229_g NBg_229 hb hbox hg) | ((with_reducible refine gate_callee (f := 27) rfl ?_); refine gsL_ (some 12) Try.func27 #[.pointer (some ⟨g, 0, none⟩), .int .i64 1] ?_; (with_reducible refine (impl_reader_size.calls g a0 0 false 1 t230 t231 t232 t233 w _ ?side1 ?side2 A3.out).mono ?_); (case side1 => repeat (first | (with_reducible first | exact HI1.out | apply IsS62.alloc | apply IsS62.drewN | apply IsS62.drew | apply IsS62.set_0 | apply IsS62.set_1 | apply IsS62.set_2 | apply IsS62.far (hne := NB1_229.out)) | exact HI1.out)); (case side2 => repeat (first | (with_reducible first | exact HB.out | apply below_alloc | apply pw_below_drewN | apply below_drew1 | refine below_set ?_ (IsS62.ge HI1.out) | refine below_set ?_ GE229.out) | exact HB.out)); rintro e w6 ⟨rfl, hi, hb, hk⟩; refine ⟨_, rfl, ?_⟩; replace BK229 := Aside0.mk (KeepBut.blk hk (g' := gb229) (o := .cells #[.int .i64 0, .slice none 0 0] 29 (0, 0)) (bkx_ BK229.out) NB229_1.out (by simp)); replace HK := Aside0.mk (KeepBut.trans (by repeat (first | (with_reducible first | exact HK.out | apply KeepBut.set_ | apply keep_drewN | apply keep_drew | apply keep_alloc | refine keep_far ?_ GW229.out _) | exact HK.out)) hk (.inl rfl)); replace HI1 := Aside0.mk (hi); replace HB := Aside0.mk (hb); (try clear hb); (try clear hb2); (try clear hk); (try clear hi)) | ((with_reducible refine gate_dst (N := 5) rfl ?_); (try (refine gate_guard (by rfl) ?_; dsimp only)); refine bx_ 5 #[.int .i64 0, .slice none 0 0] 29 ?_; intro gb234 hg w7 hbox hb; have n0_ := Aside0.mk (IsS62.below (by repeat (first | (with_reducible first | exact HI1.out | apply IsS62.alloc | apply IsS62.drewN | apply IsS62.drew | apply IsS62.set_0 | apply IsS62.set_1 | apply IsS62.set_2 | apply IsS62.far (hne := NB1_229.out)) | exact HI1.out)) hb); have n1_ := bkb_ BK229 hb; have n2_ := Aside0.mk (KeepBut.trans (by repeat (first | (with_reducible first | exact HK.out | apply KeepBut.set_ | apply keep_drewN | apply keep_drew | apply keep_alloc | refine keep_far ?_ GW229.out _) | exact HK.out)) (KeepBut.of_below hb g none) (.inl rfl)); have n3_ := Aside0.mk (below_step (by repeat (first | (with_reducible first | exact HB.out | apply below_alloc | apply pw_below_drewN | apply below_drew1 | refine below_set ?_ (IsS62.ge HI1.out) | refine below_set ?_ GE229.out) | exact HB.out)) hb); have n4_ := Aside0.mk (hbox); have n5_ := Aside0.mk ((by rw [hg]; exact (keep_size (w := w) (g := g) (row := none) (by repeat (first | (with_reducible first | exact HK.out | apply KeepBut.set_ | apply keep_drewN | apply keep_drew | apply keep_alloc | refine keep_far ?_ GW229.out _) | exact HK.out))) : w.heap.size ≤ gb234)); have n6_ := Aside0.mk ((Nat.le_trans HW0.out (by rw [hg]; exact (keep_size (w := w) (g := g) (row := none) (by repeat (first | (with_reducible first | exact HK.out | apply KeepBut.set_ | apply keep_drewN | apply keep_drew | apply keep_alloc | refine keep_far ?_ GW229.out _) | exact HK.out))) : w.heap.size ≤ gb234) : w.heap.size ≤ gb234)); have n7_ := nl_ hg BK229; have n8_ := ng_ hg BK229; have n9_ := Aside0.mk ((by rw [hg]; exact Nat.ne_of_lt (IsS62.lt (show IsS62 w _ g t231 t232 t233 from by repeat (first | (with_reducible first | exact HI1.out | apply IsS62.alloc | apply IsS62.drewN | apply IsS62.drew | apply IsS62.set_0 | apply IsS62.set_1 | apply IsS62.set_2 | apply IsS62.far (hne := NB1_229.out)) | exact HI1.out))) : g ≠ gb234)); have n10_ := Aside0.mk ((by rw [hg]; exact Nat.ne_of_gt (IsS62.lt (show IsS62 w _ g t231 t232 t233 from by repeat (first | (with_reducible first | exact HI1.out | apply IsS62.alloc | apply IsS62.drewN | apply IsS62.drew | apply IsS62.set_0 | apply IsS62.set_1 | apply IsS62.set_2 | apply IsS62.far (hne := NB1_229.out)) | exact HI1.out))) : gb234 ≠ g)); clear HI1; clear BK229; clear HK; clear HB; have HI1 := n0_; have BK229 := n1_; have HK := n2_; have HB := n3_; have BK234 := n4_; have GW234 := n5_; have GE234 := n6_; have NB229_234 := n7_; have NB234_229 := n8_; have NB1_234 := n9_; have NB234_1 := n10_; clear n0_ n1_ n2_ n3_ n4_ n5_ n6_ n7_ n8_ n9_ n10_; clear hb hbox hg; have hnb8 := NB234_229.out; have hnc8 := NB229_234.out; have hnb9 := NB234_1.out; have hnc9 := NB1_234.out; obtain ⟨hcz10_0, hcz10_1, hfz10_0, hfz10_1⟩ := b2_ BK234))
 (try simp only [Act.put, List.setIfInBounds_toArray, List.set_cons_zero, List.set_cons_succ])
 go_cut [22] (fun v22 wc => ∃ (kq : Nat) (x22_3 : Bool), v22 = .bool x22_3 ∧ Aside0 (impl_GetBag.j0 kq a0 x22_3 t231 t232 t233 t230 = some (r1, r2, r3, r4, r5, r6)) ∧ Aside0 (kq ≤ k) ∧ Aside0 (wc.heap[gb229]? = some (.cells #[.int .i64 0, (.slice none 0 0)] 29 (0, 0))) ∧ Aside0 (wc.heap[gb234]? = some (.cells #[.int .i64 t230, (.slice none 0 0)] 29 (0, 0))) ∧ Aside0 (IsS62 w wc g t231 t232 t233) ∧ Aside0 (KeepBut w wc g none) ∧ Aside0 (Below w.heap.size w wc))
 case first =>
  have H := HC4.out
  clear HC4
  by_cases c11 : t233 = true
  ·subst c11
   have H1 : (impl_GetBag.j0 k a0 true t231 t232 true t230) = some (r1, r2, r3, r4, r5, r6) := by rw [if_pos rfl] at H; exact H
   clear H
   have H := H1
   clear H1
   have H' := Aside0.mk H
   clear H
   obtain ⟨HGz12, hgz12⟩ := HI1.out
   have hcz12_0 := cellS62_0 HGz12
   have hcz12_1 := cellS62_1 HGz12
   have hcz12_2 := cellS62_2 HGz12
   have hfz12_0 := blk_frozen HGz12 0
   have hfz12_1 := blk_frozen HGz12 1
   have hfz12_2 := blk_frozen HGz12 2
   clear HGz12 hgz12
   go_wp2
   go_meet
   case rel => exact ⟨_, (true), rs_, H', ⟨by first | omega | exact Nat.le_refl _⟩, ⟨(bf2_ NB229_234 (bkx_ BK229.out))⟩, ⟨(bp2_ (bkx_ BK234.out))⟩, ⟨by repeat (first | (with_reducible first | exact HI1.out | apply IsS62.alloc | apply IsS62.drewN | apply IsS62.drew | apply IsS62.set_0 | apply IsS62.set_1 | apply IsS62.set_2 | apply IsS62.far (hne := NB1_229.out) | apply IsS62.far (hne := NB1_234.out)) | exact HI1.out)⟩, ⟨by repeat (first | (with_reducible first | exact HK.out | apply KeepBut.set_ | apply keep_drewN | apply keep_drew | apply keep_alloc | refine keep_far ?_ GW229.out _ | refine keep_far ?_ GW234.out _) | exact HK.out)⟩, ⟨by repeat (first | (with_reducible first | exact HB.out | apply below_alloc | apply pw_below_drewN | apply below_drew1 | refine below_set ?_ (IsS62.ge HI1.out) | refine below_set ?_ GE229.out | refine below_set ?_ GE234.out) | exact HB.out)⟩⟩
  ·replace c11 := Bool.eq_false_iff.mpr c11
   subst c11
   have H1 : (impl_GetBag.j0 k a0 (decide (t230 > 12)) t231 t232 false t230) = some (r1, r2, r3, r4, r5, r6) := by rw [if_neg (show ¬ (false = true) by decide)] at H; exact H
   clear H
   have H := H1
   clear H1
   have H' := Aside0.mk H
   clear H
   obtain ⟨HGz13, hgz13⟩ := HI1.out
   have hcz13_0 := cellS62_0 HGz13
   have hcz13_1 := cellS62_1 HGz13
   have hcz13_2 := cellS62_2 HGz13
   have hfz13_0 := blk_frozen HGz13 0
   have hfz13_1 := blk_frozen HGz13 1
   have hfz13_2 := blk_frozen HGz13 2
   clear HGz13 hgz13
   have hnb14 := NB234_229.out
   have hnc14 := NB229_234.out
   have hnb15 := NB234_1.out
   have hnc15 := NB1_234.out
   obtain ⟨hcz16_0, hcz16_1, hfz16_0, hfz16_1⟩ := b2_ BK234
   go_wp2
   go_meet
   case rel => exact ⟨_, (decide (t230 > 12)), rs_, H', ⟨by first | omega | exact Nat.le_refl _⟩, ⟨(bf2_ NB229_234 (bkx_ BK229.out))⟩, ⟨(bp2_ (bkx_ BK234.out))⟩, ⟨by repeat (first | (with_reducible first | exact HI1.out | apply IsS62.alloc | apply IsS62.drewN | apply IsS62.drew | apply IsS62.set_0 | apply IsS62.set_1 | apply IsS62.set_2 | apply IsS62.far (hne := NB1_229.out) | apply IsS62.far (hne := NB1_234.out)) | exact HI1.out)⟩, ⟨by repeat (first | (with_reducible first | exact HK.out | apply KeepBut.set_ | apply keep_drewN | apply keep_drew | apply keep_alloc | refine keep_far ?_ GW229.out _ | refine keep_far ?_ GW234.out _) | exact HK.out)⟩, ⟨by repeat (first | (with_reducible first | exact HB.out | apply below_alloc | apply pw_below_drewN | apply below_drew1 | refine below_set ?_ (IsS62.ge HI1.out) | refine below_set ?_ GE229.out | refine below_set ?_ GE234.out) | exact HB.out)⟩⟩
 case rest =>
  clear HC4
  try clear c1
  try clear c2
  try clear p2
  try clear c8
  try clear c9
  try clear c11
  try clear c14
  try clear c15
  try clear hcz10_0
  try clear hcz10_1
  try clear hcz12_0
  try clear hcz12_1
  try clear hcz12_2
  try clear hcz13_0
  try clear hcz13_1
  try clear hcz13_2
  try clear hcz16_0
  try clear hcz16_1
  try clear hfz10_0
  try clear hfz10_1
  try clear hfz12_0
  try clear hfz12_1
  try clear hfz12_2
  try clear hfz13_0
  try clear hfz13_1
  try clear hfz13_2
  try clear hfz16_0
  try clear hfz16_1
  obtain ⟨kq, x22_3, rfl, HA, HJ3, BK229, BK234, HI1, HK, HB⟩ := hcut
  cases kq with
  | zero => exact absurd HA.out (by simp [impl_GetBag.j0])
  | succ kj3 =>
   have H := HA.out
   clear HA
   simp only [impl_GetBag.j0] at H
   by_cases c17 : x22_3 = true
   ·subst c17
    have H1 : (some (0, ([] : List (S46)), false, t231, t232, t233)) = some (r1, r2, r3, r4, r5, r6) := by rw [if_pos rfl] at H; exact H
    clear H
    have H := H1
    clear H1
    simp only [Option.some.injEq, Prod.mk.injEq] at H
    obtain ⟨rfl, rfl, rfl, rfl, rfl, rfl⟩ := H
    have hnb18 := NB229_234.out
    have hnc18 := NB234_229.out
    have hnb19 := NB229_1.out
    have hnc19 := NB1_229.out
    obtain ⟨hcz20_0, hcz20_1, hfz20_0, hfz20_1⟩ := b2_ BK229
    go_wp2
    refine bodyPost_ret (results_ct rfl _ _ gb229 29 #[.int .i64 0, .slice none 0 0] (0, 0) _ rfl (bp2_ (bkx_ BK229.out)) Try.underlying29 rfl (by kernel_rfl)) rfl ?_
    exact ⟨g, _, by first | rfl | (simp [errW_none, errW_some] <;> rfl) | (simp [*, errW_none, errW_some] <;> rfl), by first | exact Kd.S_nil _ _ _ _ _ | exact Kd.N_nil _ _ _ _ _ | exact Kd.V_nil _ _ _ _ _ | exact Kd.Q_nil _ _ _ _ _ | exact Kd.R_nil _ _ _ _ _, by repeat (first | (with_reducible first | exact HI1.out | apply IsS62.alloc | apply IsS62.drewN | apply IsS62.drew | apply IsS62.set_0 | apply IsS62.set_1 | apply IsS62.set_2 | apply IsS62.far (hne := NB1_229.out) | apply IsS62.far (hne := NB1_234.out)) | exact HI1.out), by repeat (first | (with_reducible first | exact HB.out | apply below_alloc | apply pw_below_drewN | apply below_drew1 | refine below_set ?_ (IsS62.ge HI1.out) | refine below_set ?_ GE229.out | refine below_set ?_ GE234.out) | exact HB.out), by repeat (first | (with_reducible first | exact HK.out | apply KeepBut.set_ | apply keep_drewN | apply keep_drew | apply keep_alloc | refine keep_far ?_ GW229.out _ | refine keep_far ?_ GW234.out _) | exact HK.out)⟩
   ·replace c17 := Bool.eq_false_iff.mpr c17
    subst c17
    have H1 : (impl_GetBag.l0 kj3 a0 t231 t232 t233 t230 ([] : List (S46))) = some (r1, r2, r3, r4, r5, r6) := by rw [if_neg (show ¬ (false = true) by decide)] at H; exact H
    clear H
    have H := H1
    clear H1
    have H' := Aside0.mk H
    clear H
    go_wp2
    go_loopg [] kj3 (fun kq w' => ∃ (x2000_2 : ByteArray) (x2001_2 : Int) (x2002_2 : Bool) (x230000_2 : Int) (x235001_2 : List (S46)) (u235001 : Value), Aside0 (impl_GetBag.l0 kq a0 x2000_2 x2001_2 x2002_2 t230 x235001_2 = some (r1, r2, r3, r4, r5, r6)) ∧ Aside0 (kq ≤ kj3) ∧ Aside0 (Kd.S k46 46 w' w.heap.size (fun _ => True) u235001 x235001_2) ∧ Aside0 (w'.heap[gb229]? = some (.cells #[.int .i64 x230000_2, (.slice none 0 0)] 29 (0, 0))) ∧ Aside0 (w'.heap[gb234]? = some (.cells #[.int .i64 t230, u235001] 29 (0, 0))) ∧ Aside0 (IsS62 w w' g x2000_2 x2001_2 x2002_2) ∧ Aside0 (KeepBut w w' g none) ∧ Aside0 (Below w.heap.size w w'))
    case atStart => exact ⟨(t231), (t232), (t233), (0), (([] : List (S46))), (.slice none 0 0), H', ⟨Nat.le_refl _⟩, ⟨by first | exact Kd.S_nil _ _ _ _ _ | exact Kd.N_nil _ _ _ _ _ | exact Kd.V_nil _ _ _ _ _ | exact Kd.Q_nil _ _ _ _ _ | exact Kd.R_nil _ _ _ _ _⟩, ⟨bkx_ BK229.out⟩, ⟨bkx_ BK234.out⟩, ⟨by repeat (first | (with_reducible first | exact HI1.out | apply IsS62.alloc | apply IsS62.drewN | apply IsS62.drew | apply IsS62.set_0 | apply IsS62.set_1 | apply IsS62.set_2 | apply IsS62.far (hne := NB1_229.out) | apply IsS62.far (hne := NB1_234.out)) | exact HI1.out)⟩, ⟨by repeat (first | (with_reducible first | exact HK.out | apply KeepBut.set_ | apply keep_drewN | apply keep_drew | apply keep_alloc | refine keep_far ?_ GW229.out _ | refine keep_far ?_ GW234.out _) | exact HK.out)⟩, ⟨by repeat (first | (with_reducible first | exact HB.out | apply below_alloc | apply pw_below_drewN | apply below_drew1 | refine below_set ?_ (IsS62.ge HI1.out) | refine below_set ?_ GE229.out | refine below_set ?_ GE234.out) | exact HB.out)⟩⟩
    case round =>
     clear H'
     try clear c1
     try clear c2
     try clear p2
     try clear c8
     try clear c9
     try clear c11
     try clear c14
     try clear c15
     try clear c17
     try clear c18
     try clear c19
     try clear hcz10_0
     try clear hcz10_1
     try clear hcz12_0
     try clear hcz12_1
     try clear hcz12_2
     try clear hcz13_0
     try clear hcz13_1
     try clear hcz13_2
     try clear hcz16_0
     try clear hcz16_1
     try clear hcz20_0
     try clear hcz20_1
     try clear hfz10_0
     try clear hfz10_1
     try clear hfz12_0
     try clear hfz12_1
     try clear hfz12_2
     try clear hfz13_0
     try clear hfz13_1
     try clear hfz13_2
     try clear hfz16_0
     try clear hfz16_1
     try clear hfz20_0
     try clear hfz20_1
     try clear p2
     obtain ⟨x2000_2, x2001_2, x2002_2, x230000_2, x235001_2, u235001, HA, HK2, HO_235001, BK229, BK234, HI1, HK, HB⟩ := hrel
     cases gk with
     | zero => exact absurd HA.out (by simp [impl_GetBag.l0])
     | succ k2 =>
      have H := HA.out
      clear HA
      simp only [impl_GetBag.l0] at H
      have HC21 := Aside0.mk H
      clear H
      go_upto_region 5 with (fail)
      go_cut [37] (fun v37 wc => ∃ (kq : Nat) (x37_20 : Bool), v37 = .bool x37_20 ∧ Aside0 (impl_GetBag.j2 kq a0 x37_20 x2000_2 x2001_2 x2002_2 t230 x235001_2 = some (r1, r2, r3, r4, r5, r6)) ∧ Aside0 (kq ≤ k2) ∧ Aside0 (Kd.S k46 46 wc w.heap.size (fun _ => True) u235001 x235001_2) ∧ Aside0 (wc.heap[gb229]? = some (.cells #[.int .i64 x230000_2, (.slice none 0 0)] 29 (0, 0))) ∧ Aside0 (wc.heap[gb234]? = some (.cells #[.int .i64 t230, u235001] 29 (0, 0))) ∧ Aside0 (IsS62 w wc g x2000_2 x2001_2 x2002_2) ∧ Aside0 (KeepBut w wc g none) ∧ Aside0 (Below w.heap.size w wc))
      case first =>
       have H := HC21.out
       clear HC21
       by_cases c22 : x2002_2 = true
       ·subst c22
        have H1 : (impl_GetBag.j2 k2 a0 false x2000_2 x2001_2 true t230 x235001_2) = some (r1, r2, r3, r4, r5, r6) := by rw [if_pos rfl] at H; exact H
        clear H
        have H := H1
        clear H1
        have H' := Aside0.mk H
        clear H
        obtain ⟨HGz23, hgz23⟩ := HI1.out
        have hcz23_0 := cellS62_0 HGz23
        have hcz23_1 := cellS62_1 HGz23
        have hcz23_2 := cellS62_2 HGz23
        have hfz23_0 := blk_frozen HGz23 0
        have hfz23_1 := blk_frozen HGz23 1
        have hfz23_2 := blk_frozen HGz23 2
        clear HGz23 hgz23
        go_wp2
        go_meet
        case rel => exact ⟨_, (false), rs_, H', ⟨by have := HJ3.out; have := HK2.out; first | omega | exact Nat.le_refl _⟩, ⟨by (with_reducible repeat (first | apply Kd.S_alloc | apply Kd.S_drewN | apply Kd.S_drew)); exact HO_235001.out⟩, ⟨bkx_ BK229.out⟩, ⟨bkx_ BK234.out⟩, ⟨by repeat (first | (with_reducible first | exact HI1.out | apply IsS62.alloc | apply IsS62.drewN | apply IsS62.drew | apply IsS62.set_0 | apply IsS62.set_1 | apply IsS62.set_2 | apply IsS62.far (hne := NB1_229.out) | apply IsS62.far (hne := NB1_234.out)) | exact HI1.out)⟩, ⟨by repeat (first | (with_reducible first | exact HK.out | apply KeepBut.set_ | apply keep_drewN | apply keep_drew | apply keep_alloc | refine keep_far ?_ GW229.out _ | refine keep_far ?_ GW234.out _) | exact HK.out)⟩, ⟨by repeat (first | (with_reducible first | exact HB.out | apply below_alloc | apply pw_below_drewN | apply below_drew1 | refine below_set ?_ (IsS62.ge HI1.out) | refine below_set ?_ GE229.out | refine below_set ?_ GE234.out) | exact HB.out)⟩⟩
       ·replace c22 := Bool.eq_false_iff.mpr c22
        subst c22
        have H1 : (impl_GetBag.j2 k2 a0 (decide (x2001_2 < (a0.size : Int))) x2000_2 x2001_2 false t230 x235001_2) = some (r1, r2, r3, r4, r5, r6) := by rw [if_neg (show ¬ (false = true) by decide)] at H; exact H
        clear H
        have H := H1
        clear H1
        have H' := Aside0.mk H
        clear H
        obtain ⟨HGz24, hgz24⟩ := HI1.out
        have hcz24_0 := cellS62_0 HGz24
        have hcz24_1 := cellS62_1 HGz24
        have hcz24_2 := cellS62_2 HGz24
        have hfz24_0 := blk_frozen HGz24 0
        have hfz24_1 := blk_frozen HGz24 1
        have hfz24_2 := blk_frozen HGz24 2
        clear HGz24 hgz24
        go_wp2
        go_meet
        case rel => exact ⟨_, (decide (x2001_2 < (a0.size : Int))), rs_, H', ⟨by have := HJ3.out; have := HK2.out; first | omega | exact Nat.le_refl _⟩, ⟨by (with_reducible repeat (first | apply Kd.S_alloc | apply Kd.S_drewN | apply Kd.S_drew)); exact HO_235001.out⟩, ⟨bkx_ BK229.out⟩, ⟨bkx_ BK234.out⟩, ⟨by repeat (first | (with_reducible first | exact HI1.out | apply IsS62.alloc | apply IsS62.drewN | apply IsS62.drew | apply IsS62.set_0 | apply IsS62.set_1 | apply IsS62.set_2 | apply IsS62.far (hne := NB1_229.out) | apply IsS62.far (hne := NB1_234.out)) | exact HI1.out)⟩, ⟨by repeat (first | (with_reducible first | exact HK.out | apply KeepBut.set_ | apply keep_drewN | apply keep_drew | apply keep_alloc | refine keep_far ?_ GW229.out _ | refine keep_far ?_ GW234.out _) | exact HK.out)⟩, ⟨by repeat (first | (with_reducible first | exact HB.out | apply below_alloc | apply pw_below_drewN | apply below_drew1 | refine below_set ?_ (IsS62.ge HI1.out) | refine below_set ?_ GE229.out | refine below_set ?_ GE234.out) | exact HB.out)⟩⟩
      case rest =>
       clear HC21
       try clear c1
       try clear c2
       try clear p2
       try clear c8
       try clear c9
       try clear c11
       try clear c14
       try clear c15
       try clear c17
       try clear c18
       try clear c19
       try clear c22
       try clear hcz10_0
       try clear hcz10_1
       try clear hcz12_0
       try clear hcz12_1
       try clear hcz12_2
       try clear hcz13_0
       try clear hcz13_1
       try clear hcz13_2
       try clear hcz16_0
       try clear hcz16_1
       try clear hcz20_0
       try clear hcz20_1
       try clear hcz23_0
       try clear hcz23_1
       try clear hcz23_2
       try clear hcz24_0
       try clear hcz24_1
       try clear hcz24_2
       try clear hfz10_0
       try clear hfz10_1
       try clear hfz12_0
       try clear hfz12_1
       try clear hfz12_2
       try clear hfz13_0
       try clear hfz13_1
       try clear hfz13_2
       try clear hfz16_0
       try clear hfz16_1
       try clear hfz20_0
       try clear hfz20_1
       try clear hfz23_0
       try clear hfz23_1
       try clear hfz23_2
       try clear hfz24_0
       try clear hfz24_1
       try clear hfz24_2
       try clear p2
       obtain ⟨kq, x37_20, rfl, HA, HJ20, HO_235001, BK229, BK234, HI1, HK, HB⟩ := hcut
       cases kq with
       | zero => exact absurd HA.out (by simp [impl_GetBag.j2])
       | succ kj20 =>
        have H := HA.out
        clear HA
        simp only [impl_GetBag.j2] at H
        by_cases c25 : x37_20 = true
        ·subst c25
         have H1 : ((impl_reader_value.f x2000_2 x2001_2 x2002_2).bind fun bt236 => (if bt236.1 = 1 then (impl_GetBag.l1 kj20 a0 t230 0 bt236.2.2.2.1 bt236.2.2.2.2.1 bt236.2.2.2.2.2 t230 x235001_2 ([] : List (S42)) bt236.2.1) else (some (0, ([] : List (S46)), false, bt236.2.2.2.1, bt236.2.2.2.2.1, bt236.2.2.2.2.2)))) = some (r1, r2, r3, r4, r5, r6) := by rw [if_pos rfl] at H; exact H
         clear H
         have H := H1
         clear H1
         replace H := Option.bind_eq_some_iff.mp H
         obtain ⟨⟨t236, t237, t238, t239, t240, t241⟩, A260, H⟩ := H
         replace H : (if t236 = 1 then (impl_GetBag.l1 kj20 a0 t230 0 t239 t240 t241 t230 x235001_2 ([] : List (S42)) t237) else (some (0, ([] : List (S46)), false, t239, t240, t241))) = some (r1, r2, r3, r4, r5, r6) := H
         have A26 := Aside0.mk A260
         clear A260
         by_cases c27 : t236 = 1
         ·rw [if_pos c27] at H
          have c27b0 : (t236 == 1) = true := beq_iff_eq.mpr c27
          have c27b1 : (t236 != 1) = false := bne_eq_false_iff_eq.mpr c27
          clear c27
          have H' := Aside0.mk H
          clear H
          go_wp2_with (first | ((with_reducible refine gate_callee (f := 28) rfl ?_); refine gsL_ (some 39) Try.func28 #[.pointer (some ⟨g, 0, none⟩)] ?_; (with_reducible refine (impl_reader_value.calls g x2000_2 x2001_2 x2002_2 t236 t237 t238 t239 t240 t241 w _ ?side1 ?side2 A26.out).mono ?_); (case side1 => repeat (first | (with_reducible first | exact HI1.out | apply IsS62.alloc | apply IsS62.drewN | apply IsS62.drew | apply IsS62.set_0 | apply IsS62.set_1 | apply IsS62.set_2 | apply IsS62.far (hne := NB1_229.out) | apply IsS62.far (hne := NB1_234.out)) | exact HI1.out)); (case side2 => repeat (first | (with_reducible first | exact HB.out | apply below_alloc | apply pw_below_drewN | apply below_drew1 | refine below_set ?_ (IsS62.ge HI1.out) | refine below_set ?_ GE229.out | refine below_set ?_ GE234.out) | exact HB.out)); rintro e w28 ⟨rfl, hi, hb, hk⟩; refine ⟨_, rfl, ?_⟩; have n0_ := Aside0.mk (Kd.S_mono (Kd.S_keep (IsS62.apartS (show IsS62 w _ g x2000_2 x2001_2 x2002_2 from by repeat (first | (with_reducible first | exact HI1.out | apply IsS62.alloc | apply IsS62.drewN | apply IsS62.drew | apply IsS62.set_0 | apply IsS62.set_1 | apply IsS62.set_2 | apply IsS62.far (hne := NB1_229.out) | apply IsS62.far (hne := NB1_234.out)) | exact HI1.out)) (sk_ HO_235001.out) (by decide)) hk (fun _ h => h.2)) (fun _ h => h.1)); have n1_ := Aside0.mk (KeepBut.blk hk (g' := gb229) (o := .cells #[.int .i64 x230000_2, .slice none 0 0] 29 (0, 0)) (bkx_ BK229.out) NB229_1.out (by simp)); have n2_ := Aside0.mk (KeepBut.blk hk (g' := gb234) (o := .cells #[.int .i64 t230, u235001] 29 (0, 0)) (bkx_ BK234.out) NB234_1.out (by simp)); have n3_ := Aside0.mk (KeepBut.trans (by repeat (first | (with_reducible first | exact HK.out | apply KeepBut.set_ | apply keep_drewN | apply keep_drew | apply keep_alloc | refine keep_far ?_ GW229.out _ | refine keep_far ?_ GW234.out _) | exact HK.out)) hk (.inl rfl)); have n4_ := Aside0.mk (hb); have n5_ := Aside0.mk (hi); clear HO_235001; clear BK229; clear BK234; clear HK; clear HB; clear HI1; have HO_235001 := n0_; have BK229 := n1_; have BK234 := n2_; have HK := n3_; have HB := n4_; have HI1 := n5_; clear n0_ n1_ n2_ n3_ n4_ n5_; (try clear hb); (try clear hb2); (try clear hk); (try clear hi)) | ((with_reducible refine gate_dst (N := 6) rfl ?_); (try (refine gate_guard (by rfl) ?_; dsimp only)); refine bx_ 6 #[.int .i64 0, .int .i64 0, .string (⟨#[]⟩ : ByteArray)] 42 ?_; intro gb242 hg w29 hbox hb; have n0_ := Aside0.mk (Kd.S_below (Kd.S_elderB (sk_ HO_235001.out) gb242 (Nat.le_of_eq hg.symm)) hb); have n1_ := bkb_ BK229 hb; have n2_ := bkb_ BK234 hb; have n3_ := Aside0.mk (IsS62.below (by repeat (first | (with_reducible first | exact HI1.out | apply IsS62.alloc | apply IsS62.drewN | apply IsS62.drew | apply IsS62.set_0 | apply IsS62.set_1 | apply IsS62.set_2 | apply IsS62.far (hne := NB1_229.out) | apply IsS62.far (hne := NB1_234.out)) | exact HI1.out)) hb); have n4_ := Aside0.mk (KeepBut.trans (by repeat (first | (with_reducible first | exact HK.out | apply KeepBut.set_ | apply keep_drewN | apply keep_drew | apply keep_alloc | refine keep_far ?_ GW229.out _ | refine keep_far ?_ GW234.out _) | exact HK.out)) (KeepBut.of_below hb g none) (.inl rfl)); have n5_ := Aside0.mk (below_step (by repeat (first | (with_reducible first | exact HB.out | apply below_alloc | apply pw_below_drewN | apply below_drew1 | refine below_set ?_ (IsS62.ge HI1.out) | refine below_set ?_ GE229.out | refine below_set ?_ GE234.out) | exact HB.out)) hb); have n6_ := Aside0.mk (hbox); have n7_ := Aside0.mk ((by rw [hg]; exact (keep_size (w := w) (g := g) (row := none) (by repeat (first | (with_reducible first | exact HK.out | apply KeepBut.set_ | apply keep_drewN | apply keep_drew | apply keep_alloc | refine keep_far ?_ GW229.out _ | refine keep_far ?_ GW234.out _) | exact HK.out))) : w.heap.size ≤ gb242)); have n8_ := Aside0.mk ((Nat.le_trans HW0.out (by rw [hg]; exact (keep_size (w := w) (g := g) (row := none) (by repeat (first | (with_reducible first | exact HK.out | apply KeepBut.set_ | apply keep_drewN | apply keep_drew | apply keep_alloc | refine keep_far ?_ GW229.out _ | refine keep_far ?_ GW234.out _) | exact HK.out))) : w.heap.size ≤ gb242) : w.heap.size ≤ gb242)); have n9_ := nl_ hg BK229; have n10_ := ng_ hg BK229; have n11_ := nl_ hg BK234; have n12_ := ng_ hg BK234; have n13_ := Aside0.mk ((by rw [hg]; exact Nat.ne_of_lt (IsS62.lt (show IsS62 w _ g t239 t240 t241 from by repeat (first | (with_reducible first | exact HI1.out | apply IsS62.alloc | apply IsS62.drewN | apply IsS62.drew | apply IsS62.set_0 | apply IsS62.set_1 | apply IsS62.set_2 | apply IsS62.far (hne := NB1_229.out) | apply IsS62.far (hne := NB1_234.out)) | exact HI1.out))) : g ≠ gb242)); have n14_ := Aside0.mk ((by rw [hg]; exact Nat.ne_of_gt (IsS62.lt (show IsS62 w _ g t239 t240 t241 from by repeat (first | (with_reducible first | exact HI1.out | apply IsS62.alloc | apply IsS62.drewN | apply IsS62.drew | apply IsS62.set_0 | apply IsS62.set_1 | apply IsS62.set_2 | apply IsS62.far (hne := NB1_229.out) | apply IsS62.far (hne := NB1_234.out)) | exact HI1.out))) : gb242 ≠ g)); clear HO_235001; clear BK229; clear BK234; clear HI1; clear HK; clear HB; have HO_235001 := n0_; have BK229 := n1_; have BK234 := n2_; have HI1 := n3_; have HK := n4_; have HB := n5_; have BK242 := n6_; have GW242 := n7_; have GE242 := n8_; have NB229_242 := n9_; have NB242_229 := n10_; have NB234_242 := n11_; have NB242_234 := n12_; have NB1_242 := n13_; have NB242_1 := n14_; clear n0_ n1_ n2_ n3_ n4_ n5_ n6_ n7_ n8_ n9_ n10_ n11_ n12_ n13_ n14_; clear hb hbox hg; have hnb30 := NB242_229.out; have hnc30 := NB229_242.out; have hnb31 := NB242_234.out; have hnc31 := NB234_242.out; have hnb32 := NB242_1.out; have hnc32 := NB1_242.out; obtain ⟨hcz33_0, hcz33_1, hcz33_2, hfz33_0, hfz33_1, hfz33_2⟩ := b3_ BK242) | ((with_reducible refine gate_dst (N := 7) rfl ?_); (try (refine gate_guard (by rfl) ?_; dsimp only)); refine bx_ 7 #[.slice none 0 0, .int .i64 0] 46 ?_; intro gb243 hg w34 hbox hb; have n0_ := Aside0.mk (Kd.S_below (Kd.S_elderB (sk_ (Kd.S_mono (Kd.S_far (p := ⟨gb242, 2, none⟩) (Kd.S_far (p := ⟨gb242, 1, none⟩) (Kd.S_far (p := ⟨gb242, 0, none⟩) (Kd.S_mono HO_235001.out (fun k_ hk => (⟨hk, hk.2⟩ : _ ∧ k_ ≠ gb242))) (fun _ hk => hk.2) (.int .i64 t236)) (fun _ hk => hk.2) (.int .i64 t237)) (fun _ hk => hk.2) (.string t238)) (fun _ h_ => h_.1))) gb243 (Nat.le_of_eq hg.symm)) hb); have n1_ := Aside0.mk (blk_below (g := gb229) (o := .cells #[.int .i64 x230000_2, .slice none 0 0] 29 (0, 0)) (bf3_ NB229_242 (bkx_ BK229.out)) hb); have n2_ := Aside0.mk (blk_below (g := gb234) (o := .cells #[.int .i64 t230, u235001] 29 (0, 0)) (bf3_ NB234_242 (bkx_ BK234.out)) hb); have n3_ := Aside0.mk (IsS62.below (show IsS62 w (((w29.setCell ⟨gb242, 0, none⟩ (.int .i64 t236)).setCell ⟨gb242, 1, none⟩ (.int .i64 t237)).setCell ⟨gb242, 2, none⟩ (.string t238)) g t239 t240 t241 from by repeat (first | (with_reducible first | exact HI1.out | apply IsS62.alloc | apply IsS62.drewN | apply IsS62.drew | apply IsS62.set_0 | apply IsS62.set_1 | apply IsS62.set_2 | apply IsS62.far (hne := NB1_229.out) | apply IsS62.far (hne := NB1_234.out) | apply IsS62.far (hne := NB1_242.out)) | exact HI1.out)) hb); have n4_ := Aside0.mk (blk_below (g := gb242) (o := .cells #[.int .i64 t236, .int .i64 t237, .string t238] 42 (0, 0)) (bp3_ (bkx_ BK242.out)) hb); have n5_ := Aside0.mk (KeepBut.trans (by repeat (first | (with_reducible first | exact HK.out | apply KeepBut.set_ | apply keep_drewN | apply keep_drew | apply keep_alloc | refine keep_far ?_ GW229.out _ | refine keep_far ?_ GW234.out _ | refine keep_far ?_ GW242.out _) | exact HK.out)) (KeepBut.of_below hb g none) (.inl rfl)); have n6_ := Aside0.mk (below_step (by repeat (first | (with_reducible first | exact HB.out | apply below_alloc | apply pw_below_drewN | apply below_drew1 | refine below_set ?_ (IsS62.ge HI1.out) | refine below_set ?_ GE229.out | refine below_set ?_ GE234.out | refine below_set ?_ GE242.out) | exact HB.out)) hb); have n7_ := Aside0.mk (hbox); have n8_ := Aside0.mk ((by rw [hg]; exact (keep_size (w := w) (g := g) (row := none) (by repeat (first | (with_reducible first | exact HK.out | apply KeepBut.set_ | apply keep_drewN | apply keep_drew | apply keep_alloc | refine keep_far ?_ GW229.out _ | refine keep_far ?_ GW234.out _ | refine keep_far ?_ GW242.out _) | exact HK.out))) : w.heap.size ≤ gb243)); have n9_ := Aside0.mk ((Nat.le_trans HW0.out (by rw [hg]; exact (keep_size (w := w) (g := g) (row := none) (by repeat (first | (with_reducible first | exact HK.out | apply KeepBut.set_ | apply keep_drewN | apply keep_drew | apply keep_alloc | refine keep_far ?_ GW229.out _ | refine keep_far ?_ GW234.out _ | refine keep_far ?_ GW242.out _) | exact HK.out))) : w.heap.size ≤ gb243) : w.heap.size ≤ gb243)); have n10_ := Aside0.mk ((by rw [hg]; exact Nat.ne_of_lt (blk_lt (g := gb229) (o := .cells #[.int .i64 x230000_2, .slice none 0 0] 29 (0, 0)) (bf3_ NB229_242 (bkx_ BK229.out))) : gb229 ≠ gb243)); have n11_ := Aside0.mk ((by rw [hg]; exact Nat.ne_of_gt (blk_lt (g := gb229) (o := .cells #[.int .i64 x230000_2, .slice none 0 0] 29 (0, 0)) (bf3_ NB229_242 (bkx_ BK229.out))) : gb243 ≠ gb229)); have n12_ := Aside0.mk ((by rw [hg]; exact Nat.ne_of_lt (blk_lt (g := gb234) (o := .cells #[.int .i64 t230, u235001] 29 (0, 0)) (bf3_ NB234_242 (bkx_ BK234.out))) : gb234 ≠ gb243)); have n13_ := Aside0.mk ((by rw [hg]; exact Nat.ne_of_gt (blk_lt (g := gb234) (o := .cells #[.int .i64 t230, u235001] 29 (0, 0)) (bf3_ NB234_242 (bkx_ BK234.out))) : gb243 ≠ gb234)); have n14_ := Aside0.mk ((by rw [hg]; exact Nat.ne_of_lt (blk_lt (g := gb242) (o := .cells #[.int .i64 t236, .int .i64 t237, .string t238] 42 (0, 0)) (bp3_ (bkx_ BK242.out))) : gb242 ≠ gb243)); have n15_ := Aside0.mk ((by rw [hg]; exact Nat.ne_of_gt (blk_lt (g := gb242) (o := .cells #[.int .i64 t236, .int .i64 t237, .string t238] 42 (0, 0)) (bp3_ (bkx_ BK242.out))) : gb243 ≠ gb242)); have n16_ := Aside0.mk ((by rw [hg]; exact Nat.ne_of_lt (IsS62.lt (show IsS62 w _ g t239 t240 t241 from by repeat (first | (with_reducible first | exact HI1.out | apply IsS62.alloc | apply IsS62.drewN | apply IsS62.drew | apply IsS62.set_0 | apply IsS62.set_1 | apply IsS62.set_2 | apply IsS62.far (hne := NB1_229.out) | apply IsS62.far (hne := NB1_234.out) | apply IsS62.far (hne := NB1_242.out)) | exact HI1.out))) : g ≠ gb243)); have n17_ := Aside0.mk ((by rw [hg]; exact Nat.ne_of_gt (IsS62.lt (show IsS62 w _ g t239 t240 t241 from by repeat (first | (with_reducible first | exact HI1.out | apply IsS62.alloc | apply IsS62.drewN | apply IsS62.drew | apply IsS62.set_0 | apply IsS62.set_1 | apply IsS62.set_2 | apply IsS62.far (hne := NB1_229.out) | apply IsS62.far (hne := NB1_234.out) | apply IsS62.far (hne := NB1_242.out)) | exact HI1.out))) : gb243 ≠ g)); clear HO_235001; clear BK229; clear BK234; clear HI1; clear BK242; clear HK; clear HB; have HO_235001 := n0_; have BK229 := n1_; have BK234 := n2_; have HI1 := n3_; have BK242 := n4_; have HK := n5_; have HB := n6_; have BK243 := n7_; have GW243 := n8_; have GE243 := n9_; have NB229_243 := n10_; have NB243_229 := n11_; have NB234_243 := n12_; have NB243_234 := n13_; have NB242_243 := n14_; have NB243_242 := n15_; have NB1_243 := n16_; have NB243_1 := n17_; clear n0_ n1_ n2_ n3_ n4_ n5_ n6_ n7_ n8_ n9_ n10_ n11_ n12_ n13_ n14_ n15_ n16_ n17_; clear hb hbox hg; have hnb35 := NB243_229.out; have hnc35 := NB229_243.out; have hnb36 := NB243_234.out; have hnc36 := NB234_243.out; have hnb37 := NB243_242.out; have hnc37 := NB242_243.out; have hnb38 := NB243_1.out; have hnc38 := NB1_243.out; obtain ⟨hcz39_0, hcz39_1, hfz39_0, hfz39_1⟩ := b2_ BK243; have hnb40 := NB234_229.out; have hnc40 := NB229_234.out; have hnb41 := NB234_1.out; have hnc41 := NB1_234.out; obtain ⟨hcz42_0, hcz42_1, hfz42_0, hfz42_1⟩ := b2_ BK234))
          go_loopg [49] kj20 (fun kq v49 w' => ∃ (x49_4 : Int) (x2000_4 : ByteArray) (x2001_4 : Int) (x2002_4 : Bool) (x244000_4 : List (S42)) (u244000 : Value), v49 = .int .i64 x49_4 ∧ Aside0 (impl_GetBag.l1 kq a0 t230 x49_4 x2000_4 x2001_4 x2002_4 t230 x235001_2 x244000_4 t237 = some (r1, r2, r3, r4, r5, r6)) ∧ Aside0 (kq ≤ kj20) ∧ Aside0 (Kd.S k46 46 w' w.heap.size (fun k_ => some k_ ≠ (u244000 : Value).ownBlock ∧ k_ ≠ gb242 ∧ k_ ≠ gb243) u235001 x235001_2) ∧ Aside0 (Kd.R k42 42 w' w.heap.size (fun k_ => k_ ≠ gb242) u244000 x244000_4) ∧ Aside0 (w'.heap[gb229]? = some (.cells #[.int .i64 x230000_2, (.slice none 0 0)] 29 (0, 0))) ∧ Aside0 (w'.heap[gb234]? = some (.cells #[.int .i64 t230, u235001] 29 (0, 0))) ∧ Aside0 (w'.heap[gb242]? = some (.cells #[.int .i64 t236, .int .i64 t237, .string t238] 42 (0, 0))) ∧ Aside0 (w'.heap[gb243]? = some (.cells #[u244000, .int .i64 t237] 46 (0, 0))) ∧ Aside0 (IsS62 w w' g x2000_4 x2001_4 x2002_4) ∧ Aside0 (KeepBut w w' g none) ∧ Aside0 (Below w.heap.size w w'))
          case atStart => exact ⟨(0), (t239), (t240), (t241), (([] : List (S42))), (.slice none 0 0), rs_, H', ⟨Nat.le_refl _⟩, ⟨by (with_reducible repeat (first | apply Kd.S_alloc | apply Kd.S_drewN | apply Kd.S_drew)); exact Kd.S_mono (Kd.S_far (p := ⟨gb243, 1, none⟩) (Kd.S_far (p := ⟨gb243, 0, none⟩) (Kd.S_mono HO_235001.out (fun k_ hk => (⟨hk, hk.2⟩ : _ ∧ k_ ≠ gb243))) (fun _ hk => hk.2) (.slice none 0 0)) (fun _ hk => hk.2) (.int .i64 t237)) (fun _ hk => ⟨(by simp [Value.ownBlock]), ⟨hk.1.1.2, hk.1.2⟩⟩)⟩, ⟨by first | exact Kd.R_nil _ _ _ _ _ | exact Kd.N_nil _ _ _ _ _ | exact Kd.V_nil _ _ _ _ _ | exact Kd.Q_nil _ _ _ _ _ | exact Kd.S_nil _ _ _ _ _⟩, ⟨(bf2_ NB229_243 (bkx_ BK229.out))⟩, ⟨(bf2_ NB234_243 (bkx_ BK234.out))⟩, ⟨(bf2_ NB242_243 (bkx_ BK242.out))⟩, ⟨(bp2_ (bkx_ BK243.out))⟩, ⟨by repeat (first | (with_reducible first | exact HI1.out | apply IsS62.alloc | apply IsS62.drewN | apply IsS62.drew | apply IsS62.set_0 | apply IsS62.set_1 | apply IsS62.set_2 | apply IsS62.far (hne := NB1_229.out) | apply IsS62.far (hne := NB1_234.out) | apply IsS62.far (hne := NB1_242.out) | apply IsS62.far (hne := NB1_243.out)) | exact HI1.out)⟩, ⟨by repeat (first | (with_reducible first | exact HK.out | apply KeepBut.set_ | apply keep_drewN | apply keep_drew | apply keep_alloc | refine keep_far ?_ GW229.out _ | refine keep_far ?_ GW234.out _ | refine keep_far ?_ GW242.out _ | refine keep_far ?_ GW243.out _) | exact HK.out)⟩, ⟨by repeat (first | (with_reducible first | exact HB.out | apply below_alloc | apply pw_below_drewN | apply below_drew1 | refine below_set ?_ (IsS62.ge HI1.out) | refine below_set ?_ GE229.out | refine below_set ?_ GE234.out | refine below_set ?_ GE242.out | refine below_set ?_ GE243.out) | exact HB.out)⟩⟩
          case round =>
           clear H'
           try clear c1
           try clear c2
           try clear p2
           try clear c3
           try clear c4
           try clear c8
           try clear c9
           try clear c11
           try clear c14
           try clear c15
           try clear c17
           try clear c18
           try clear c19
           try clear c22
           try clear c25
           try clear c27
           try clear c27b0
           try clear c27b1
           try clear c28
           try clear c30
           try clear c31
           try clear c32
           try clear c35
           try clear c36
           try clear c37
           try clear c38
           try clear c40
           try clear c41
           try clear hcz10_0
           try clear hcz10_1
           try clear hcz12_0
           try clear hcz12_1
           try clear hcz12_2
           try clear hcz13_0
           try clear hcz13_1
           try clear hcz13_2
           try clear hcz16_0
           try clear hcz16_1
           try clear hcz20_0
           try clear hcz20_1
           try clear hcz23_0
           try clear hcz23_1
           try clear hcz23_2
           try clear hcz24_0
           try clear hcz24_1
           try clear hcz24_2
           try clear hcz33_0
           try clear hcz33_1
           try clear hcz33_2
           try clear hcz39_0
           try clear hcz39_1
           try clear hcz42_0
           try clear hcz42_1
           try clear hfz10_0
           try clear hfz10_1
           try clear hfz12_0
           try clear hfz12_1
           try clear hfz12_2
           try clear hfz13_0
           try clear hfz13_1
           try clear hfz13_2
           try clear hfz16_0
           try clear hfz16_1
           try clear hfz20_0
           try clear hfz20_1
           try clear hfz23_0
           try clear hfz23_1
           try clear hfz23_2
           try clear hfz24_0
           try clear hfz24_1
           try clear hfz24_2
           try clear hfz33_0
           try clear hfz33_1
           try clear hfz33_2
           try clear hfz39_0
           try clear hfz39_1
           try clear hfz42_0
           try clear hfz42_1
           try clear p2
           obtain ⟨x49_4, x2000_4, x2001_4, x2002_4, x244000_4, u244000, rfl, HA, HK4, HO_235001, HO_244000, BK229, BK234, BK242, BK243, HI1, HK, HB⟩ := hrel
           cases gk with
           | zero => exact absurd HA.out (by simp [impl_GetBag.l1])
           | succ k4 =>
            have H := HA.out
            clear HA
            simp only [impl_GetBag.l1] at H
            by_cases c43 : x49_4 < t230
            ·rw [if_pos c43] at H
             have c43b0 : decide (x49_4 < t230) = true := decide_eq_true c43
             clear c43
             replace H := Option.bind_eq_some_iff.mp H
             obtain ⟨⟨t244, t245, t246, t247, t248, t249⟩, A440, H⟩ := H
             replace H : (if x244000_4.length < 4398046511104 then (impl_GetBag.l1 k4 a0 t230 (wrap64 (x49_4 + 1)) t247 t248 t249 t230 x235001_2 (x244000_4 ++ [(⟨t244, t245, t246⟩ : S42)]) t237) else (none)) = some (r1, r2, r3, r4, r5, r6) := H
             have A44 := Aside0.mk A440
             clear A440
             by_cases c45 : x244000_4.length < 4398046511104
             ·rw [if_pos c45] at H
              have LMc45 := Aside0.mk c45
              clear c45
              obtain ⟨y250, hy250⟩ : ∃ y_ : List (S42), y_ = (x244000_4 ++ [(⟨t244, t245, t246⟩ : S42)]) := ⟨_, rfl⟩
              replace H : (impl_GetBag.l1 k4 a0 t230 (wrap64 (x49_4 + 1)) t247 t248 t249 t230 x235001_2 y250 t237) = some (r1, r2, r3, r4, r5, r6) := by first | (rw [hy250]; with_reducible exact H) | (have H2_ := (Option.bind_some _ _).symm.trans H; rw [hy250]; with_reducible exact H2_) | (have H2_ := (Option.bind_some _ _).symm.trans H; with_reducible exact H2_) | with_reducible exact H | (rw [hy250]; exact H) | exact H
              have Ny250 := Aside0.mk hy250
              clear hy250
              have H' := Aside0.mk H
              clear H
              try go_wp2
              replace HO_235001 := Aside0.mk (Kd.S_drew HO_235001.out)
              replace HO_244000 := Aside0.mk (Kd.R_drew HO_244000.out)
              replace BK229 := Aside0.mk (blk_drew BK229.out)
              replace BK234 := Aside0.mk (blk_drew BK234.out)
              replace BK242 := Aside0.mk (blk_drew BK242.out)
              replace BK243 := Aside0.mk (blk_drew BK243.out)
              replace HI1 := Aside0.mk (IsS62.drew HI1.out)
              replace HK := Aside0.mk (keep_drew HK.out)
              replace HB := Aside0.mk (below_drew1 HB.out)
              refine start_ (n := 8) (S := fun w' => w'.cell? ⟨gb243, 0, none⟩ = some (u244000) ∧ w'.cell? ⟨gb243, 1, none⟩ = some (.int .i64 t237)) (ds := [7]) (tf 0 8) (by kernel_rfl) rfl rfl ⟨bc_ BK243 0, bc_ BK243 1⟩ (fun hHeld => ?_); refine with_tabW impl_GetBag.tab12 impl_GetBag.bits12 (fun HT_ HW_ => ?_)
              generalize wr.drew = w46 at HO_235001 HO_244000 BK229 BK234 BK242 BK243 HI1 HK HB hHeld ⊢
              refine pl_ ?_
              refine plx_ 2 #[true, false, true, false, false, false, false, false] ?_
              refine tlx_ 1 (tf 3 5) ?_
              refine one_ (i := 3) (N := some 54) (tf 4 4) rfl rfl (one_of HT_.out (by kernel_rfl)) (by decide) (fun K hK => ?_)
              refine gs_ Try.func28 #[.pointer (some ⟨g, 0, none⟩)] ?_
              with_reducible refine (impl_reader_value.calls g x2000_4 x2001_4 x2002_4 t244 t245 t246 t247 t248 t249 w _ ?side1 ?side2 A44.out).mono ?_
              (case side1 => repeat (first | (with_reducible first | exact HI1.out | apply IsS62.alloc | apply IsS62.drewN | apply IsS62.drew | apply IsS62.set_0 | apply IsS62.set_1 | apply IsS62.set_2 | apply IsS62.far (hne := NB1_229.out) | apply IsS62.far (hne := NB1_234.out) | apply IsS62.far (hne := NB1_242.out) | apply IsS62.far (hne := NB1_243.out)) | exact HI1.out))
              (case side2 => repeat (first | (with_reducible first | exact HB.out | apply below_alloc | apply pw_below_drewN | apply below_drew1 | refine below_set ?_ (IsS62.ge HI1.out) | refine below_set ?_ GE229.out | refine below_set ?_ GE234.out | refine below_set ?_ GE242.out | refine below_set ?_ GE243.out) | exact HB.out))
              rintro e w47 ⟨rfl, hi, hb, hk⟩
              refine ⟨_, rfl, ?_⟩
              have n0_ := Aside0.mk (Kd.S_mono (Kd.S_keep (IsS62.apartS (show IsS62 w _ g x2000_4 x2001_4 x2002_4 from by repeat (first | (with_reducible first | exact HI1.out | apply IsS62.alloc | apply IsS62.drewN | apply IsS62.drew | apply IsS62.set_0 | apply IsS62.set_1 | apply IsS62.set_2 | apply IsS62.far (hne := NB1_229.out) | apply IsS62.far (hne := NB1_234.out) | apply IsS62.far (hne := NB1_242.out) | apply IsS62.far (hne := NB1_243.out)) | exact HI1.out)) (sk_ HO_235001.out) (by decide)) hk (fun _ h => h.2)) (fun _ h => h.1))
              have n1_ := Aside0.mk (Kd.R_mono (Kd.R_keep (IsS62.apart (show IsS62 w _ g x2000_4 x2001_4 x2002_4 from by repeat (first | (with_reducible first | exact HI1.out | apply IsS62.alloc | apply IsS62.drewN | apply IsS62.drew | apply IsS62.set_0 | apply IsS62.set_1 | apply IsS62.set_2 | apply IsS62.far (hne := NB1_229.out) | apply IsS62.far (hne := NB1_234.out) | apply IsS62.far (hne := NB1_242.out) | apply IsS62.far (hne := NB1_243.out)) | exact HI1.out)) (rk_ HO_244000.out) (by decide)) hk (fun _ h => h.2)) (fun _ h => h.1))
              have n2_ := Aside0.mk (KeepBut.blk hk (g' := gb229) (o := .cells #[.int .i64 x230000_2, .slice none 0 0] 29 (0, 0)) (bkx_ BK229.out) NB229_1.out (by simp))
              have n3_ := Aside0.mk (KeepBut.blk hk (g' := gb234) (o := .cells #[.int .i64 t230, u235001] 29 (0, 0)) (bkx_ BK234.out) NB234_1.out (by simp))
              have n4_ := Aside0.mk (KeepBut.blk hk (g' := gb242) (o := .cells #[.int .i64 t236, .int .i64 t237, .string t238] 42 (0, 0)) (bkx_ BK242.out) NB242_1.out (by simp))
              have n5_ := Aside0.mk (KeepBut.blk hk (g' := gb243) (o := .cells #[u244000, .int .i64 t237] 46 (0, 0)) (bkx_ BK243.out) NB243_1.out (by simp))
              have n6_ := Aside0.mk (KeepBut.trans (by repeat (first | (with_reducible first | exact HK.out | apply KeepBut.set_ | apply keep_drewN | apply keep_drew | apply keep_alloc | refine keep_far ?_ GW229.out _ | refine keep_far ?_ GW234.out _ | refine keep_far ?_ GW242.out _ | refine keep_far ?_ GW243.out _) | exact HK.out)) hk (.inl rfl))
              have n7_ := Aside0.mk (hb)
              have n8_ := Aside0.mk (hi)
              clear HO_235001
              clear HO_244000
              clear BK229
              clear BK234
              clear BK242
              clear BK243
              clear HK
              clear HB
              clear HI1
              have HO_235001 := n0_
              have HO_244000 := n1_
              have BK229 := n2_
              have BK234 := n3_
              have BK242 := n4_
              have BK243 := n5_
              have HK := n6_
              have HB := n7_
              have HI1 := n8_
              clear n0_ n1_ n2_ n3_ n4_ n5_ n6_ n7_ n8_
              (try clear hb)
              (try clear hb2)
              (try clear hk)
              (try clear hi)
              refine hK.out _ _ ⟨bc_ BK243 0, bc_ BK243 1⟩ (fun hHeld => ?_)
              clear hK K
              refine nm_ ?_
              refine one_ (i := 4) (N := some 55) (tf 5 3) rfl rfl (one_of HT_.out (by kernel_rfl)) (by decide) (fun K hK => ?_)
              refine value_ (w1 := ?_) (v := ?_) (by rfl) rfl ?_ ?_
              rotate_left 2
              ·go_simp
               constructor
               ·rfl
               ·rfl
              refine hK.out _ _ ⟨(blk_cell (blk_alloc BK243.out _) 0).trans rfl, (blk_cell (blk_alloc BK243.out _) 1).trans rfl⟩ (fun hHeld => ?_)
              clear hK K
              refine nm_ ?_
              refine one_ (i := 5) (N := some 56) (tf 6 2) rfl rfl (one_of HT_.out (by kernel_rfl)) (by decide) (fun K hK => ?_)
              refine Kd.R_append_step k42 w.heap.size (by rfl) (.tmp 52) (.tmp 55) 44 42 (.agg #[(.int .i64 0), (.int .i64 0), (.string ⟨#[]⟩)]) 32 rfl Try.underlying44 info42 rfl (by decide) (by omega) u244000 x244000_4 (⟨t244, t245, t246⟩ : S42) [.int .i64 t244, .int .i64 t245, .string t246] (fun k_ => k_ ≠ gb242) (fun _ => False) rfl rfl ?aP (fun _ hk => hk.elim) ?aF ?aO (Below.refl _ _) ?aS ?aL ?_
              (case aP => exact k42_mkM _ _ _ (⟨t244, t245, t246⟩ : S42))
              (case aF => exact (fun k_ hk => Kd.freshB (g := gb242) (o := .cells #[.int .i64 t236, .int .i64 t237, .string t238] 42 (0, 0)) (bkx_ BK242.out) k_ hk))
              (case aO => exact (rk_ HO_244000.out))
              (case aS => exact (keep_size (w := w) (g := g) (row := none) (by repeat (first | (with_reducible first | exact HK.out | apply KeepBut.set_ | apply keep_drewN | apply keep_drew | apply keep_alloc | refine keep_far ?_ GW229.out _ | refine keep_far ?_ GW234.out _ | refine keep_far ?_ GW242.out _ | refine keep_far ?_ GW243.out _) | exact HK.out))))
              (case aL => have := LMc45.out; omega)
              intro v251 w48 ho hb hg hat
              rw [← Ny250.out] at ho
              have n0_ := Aside0.mk (Kd.S_after (ok := (fun k_ => k_ ≠ gb242 ∧ k_ ≠ gb243)) (sk_ (Kd.S_mono HO_235001.out (fun _ hk => ⟨⟨hk.2.1, hk.2.2⟩, hk.1⟩))) hg hat)
              have n1_ := Aside0.mk (blk_grown (g := gb229) (o := .cells #[.int .i64 x230000_2, .slice none 0 0] 29 (0, 0)) (bkx_ BK229.out) hg (Kd.R_ne HO_244000.out BK229.out (by decide)))
              have n2_ := Aside0.mk (blk_grown (g := gb234) (o := .cells #[.int .i64 t230, u235001] 29 (0, 0)) (bkx_ BK234.out) hg (Kd.R_ne HO_244000.out BK234.out (by decide)))
              have n3_ := Aside0.mk (blk_grown (g := gb242) (o := .cells #[.int .i64 t236, .int .i64 t237, .string t238] 42 (0, 0)) (bkx_ BK242.out) hg (Kd.R_away HO_244000.out (fun _ hk => hk)))
              have n4_ := Aside0.mk (blk_grown (g := gb243) (o := .cells #[u244000, .int .i64 t237] 46 (0, 0)) (bkx_ BK243.out) hg (Kd.R_ne HO_244000.out BK243.out (by decide)))
              have n5_ := Aside0.mk (IsS62.grown (by repeat (first | (with_reducible first | exact HI1.out | apply IsS62.alloc | apply IsS62.drewN | apply IsS62.drew | apply IsS62.set_0 | apply IsS62.set_1 | apply IsS62.set_2 | apply IsS62.far (hne := NB1_229.out) | apply IsS62.far (hne := NB1_234.out) | apply IsS62.far (hne := NB1_242.out) | apply IsS62.far (hne := NB1_243.out)) | exact HI1.out)) hg (IsS62.own_ne HI1.out HO_244000.out (by decide)))
              have n6_ := Aside0.mk (below_weaken (by repeat (first | (with_reducible first | exact HB.out | apply below_alloc | apply pw_below_drewN | apply below_drew1 | refine below_set ?_ (IsS62.ge HI1.out) | refine below_set ?_ GE229.out | refine below_set ?_ GE234.out | refine below_set ?_ GE242.out | refine below_set ?_ GE243.out) | exact HB.out)) HL.out hb)
              have n7_ := Aside0.mk (KeepBut.trans (by repeat (first | (with_reducible first | exact HK.out | apply KeepBut.set_ | apply keep_drewN | apply keep_drew | apply keep_alloc | refine keep_far ?_ GW229.out _ | refine keep_far ?_ GW234.out _ | refine keep_far ?_ GW242.out _ | refine keep_far ?_ GW243.out _) | exact HK.out)) (KeepBut.of_grown hg g) (Kd.R_base2 HO_244000.out))
              have n8_ := Aside0.mk (ho)
              clear HO_235001
              clear BK229
              clear BK234
              clear BK242
              clear BK243
              clear HI1
              clear HB
              clear HK
              clear HO_244000
              have HO_235001 := n0_
              have BK229 := n1_
              have BK234 := n2_
              have BK242 := n3_
              have BK243 := n4_
              have HI1 := n5_
              have HB := n6_
              have HK := n7_
              have HO252 := n8_
              clear n0_ n1_ n2_ n3_ n4_ n5_ n6_ n7_ n8_
              clear ho hb hg hat
              obtain ⟨Ao49, co49, eo49⟩ := Kd.R_slice HO252.out
              (first | subst eo49 | (injection eo49 with f1_ f2_ f3_; have f4_ := f1_.symm; have f5_ := f3_.symm; clear f1_ f2_ f3_; subst f4_; subst f5_))
              refine hK.out _ _ ⟨bc_ BK243 0, bc_ BK243 1⟩ (fun hHeld => ?_)
              clear hK K
              refine nm_ ?_
              refine plx_ 6 (tf 7 1) ?_
              refine last_ (i := 7) (N := none) (tf 8 0) rfl rfl (one_of HT_.out (by kernel_rfl)) (by decide) (fun K hK => ?_)
              have hs50 : w48.cell? ⟨gb243, 0, none⟩ = some (u244000) := bc_ BK243 0
              have hfs50 := blk_frozen BK243.out 0
              have hns50_0 := NB229_243.out
              have hns50_1 := NB234_243.out
              have hns50_2 := NB242_243.out
              have hms50_0 := NB243_229.out
              have hms50_1 := NB243_234.out
              have hms50_2 := NB243_242.out
              refine skip_ (w1 := ?_) (by rfl) rfl ?_ ?_
              rotate_left
              ·go_simp
               rfl
              refine hK.out _ _ ?_
              clear hK K
              refine done_ (done_of HT_.out (by kernel_rfl)) ?_
              try go_wp2
              go_roundg k4
              case measure => have := HJ3.out; have := HK2.out; have := HJ20.out; have := HK4.out; omega
              case rel => exact ⟨(wrap64 (x49_4 + 1)), (t247), (t248), (t249), (y250), (.slice Ao49 y250.length co49), rs_, H', ⟨by have := HJ3.out; have := HK2.out; have := HJ20.out; have := HK4.out; omega⟩, ⟨by (with_reducible repeat (first | apply Kd.S_alloc | apply Kd.S_drewN | apply Kd.S_drew)); exact Kd.S_mono (Kd.S_far (p := ⟨gb243, 0, none⟩) (Kd.S_mono HO_235001.out (fun k_ hk => (⟨hk, hk.1.2⟩ : _ ∧ k_ ≠ gb243))) (fun _ hk => hk.2) (.slice Ao49 y250.length co49)) (fun _ hk => ⟨hk.1.2, ⟨hk.1.1.1, hk.1.1.2⟩⟩)⟩, ⟨by (with_reducible repeat (first | apply Kd.R_alloc | apply Kd.R_drewN | apply Kd.R_drew)); exact Kd.R_mono (Kd.R_far (p := ⟨gb243, 0, none⟩) (Kd.R_types HO252.out BK243.out (by decide)) (fun _ hk => hk.2) (.slice Ao49 y250.length co49)) (fun _ hk => hk.1)⟩, ⟨(bf1_ NB229_243 (bkx_ BK229.out))⟩, ⟨(bf1_ NB234_243 (bkx_ BK234.out))⟩, ⟨(bf1_ NB242_243 (bkx_ BK242.out))⟩, ⟨by (with_reducible repeat (first | refine blk_drewN ?_ _ | refine blk_drew ?_ | refine blk_alloc ?_ _)); refine blk_put (cs := #[u244000, .int .i64 t237]) ?_ 0 _ rfl; (with_reducible repeat (first | refine blk_drewN ?_ _ | refine blk_drew ?_ | refine blk_alloc ?_ _)); exact BK243.out⟩, ⟨by repeat (first | (with_reducible first | exact HI1.out | apply IsS62.alloc | apply IsS62.drewN | apply IsS62.drew | apply IsS62.set_0 | apply IsS62.set_1 | apply IsS62.set_2 | apply IsS62.far (hne := NB1_229.out) | apply IsS62.far (hne := NB1_234.out) | apply IsS62.far (hne := NB1_242.out) | apply IsS62.far (hne := NB1_243.out)) | exact HI1.out)⟩, ⟨by repeat (first | (with_reducible first | exact HK.out | apply KeepBut.set_ | apply keep_drewN | apply keep_drew | apply keep_alloc | refine keep_far ?_ GW229.out _ | refine keep_far ?_ GW234.out _ | refine keep_far ?_ GW242.out _ | refine keep_far ?_ GW243.out _) | exact HK.out)⟩, ⟨by repeat (first | (with_reducible first | exact HB.out | apply below_alloc | apply pw_below_drewN | apply below_drew1 | refine below_set ?_ (IsS62.ge HI1.out) | refine below_set ?_ GE229.out | refine below_set ?_ GE234.out | refine below_set ?_ GE242.out | refine below_set ?_ GE243.out) | exact HB.out)⟩⟩
             ·rw [if_neg c45] at H
              exact absurd H (by simp)
            ·rw [if_neg c43] at H
             have c43b0 : decide (x49_4 < t230) = false := decide_eq_false c43
             clear c43
             by_cases c51 : x235001_2.length < 4398046511104
             ·rw [if_pos c51] at H
              have LMc51 := Aside0.mk c51
              clear c51
              obtain ⟨y253, hy253⟩ : ∃ y_ : List (S46), y_ = (x235001_2 ++ [(⟨x244000_4, t237⟩ : S46)]) := ⟨_, rfl⟩
              replace H : (impl_GetBag.l0 k4 a0 x2000_4 x2001_4 x2002_4 t230 y253) = some (r1, r2, r3, r4, r5, r6) := by first | (rw [hy253]; with_reducible exact H) | (have H2_ := (Option.bind_some _ _).symm.trans H; rw [hy253]; with_reducible exact H2_) | (have H2_ := (Option.bind_some _ _).symm.trans H; with_reducible exact H2_) | with_reducible exact H | (rw [hy253]; exact H) | exact H
              have Ny253 := Aside0.mk hy253
              clear hy253
              have H' := Aside0.mk H
              clear H
              have hnb52 := NB234_229.out
              have hnc52 := NB229_234.out
              have hnb53 := NB234_242.out
              have hnc53 := NB242_234.out
              have hnb54 := NB234_243.out
              have hnc54 := NB243_234.out
              have hnb55 := NB234_1.out
              have hnc55 := NB1_234.out
              obtain ⟨hcz56_0, hcz56_1, hfz56_0, hfz56_1⟩ := b2_ BK234
              have hnb57 := NB243_229.out
              have hnc57 := NB229_243.out
              have hnb58 := NB243_242.out
              have hnc58 := NB242_243.out
              have hnb59 := NB243_1.out
              have hnc59 := NB1_243.out
              obtain ⟨hcz60_0, hcz60_1, hfz60_0, hfz60_1⟩ := b2_ BK243
              obtain ⟨Ao62, co62, eo62⟩ := Kd.R_slice HO_244000.out
              subst eo62
              go_wp2_with (first | ((with_reducible refine gate_builtin (b := .append) (xs := #[.tmp 60, .tmp 62]) rfl ?_); (try (refine gate_guard (by rfl) ?_; dsimp only)); at_builtin; refine Kd.S_append k46 w.heap.size rfl (.tmp 60) (.tmp 62) 27 46 (.agg #[(.slice none 0 0), (.int .i64 0)]) 32 rfl Try.underlying27 info46 rfl (by decide) (by omega) u235001 x235001_2 (⟨x244000_4, t237⟩ : S46) [.slice Ao62 x244000_4.length co62, .int .i64 t237] (fun k_ => k_ ≠ gb242 ∧ k_ ≠ gb243) (fun k_ => some k_ = (.slice Ao62 x244000_4.length co62 : Value).ownBlock) rfl rfl ?aP (fun k_ hk_ => ((Kd.R_mono (ok' := fun k_ => ((fun k_ => k_ ≠ gb242 ∧ k_ ≠ gb243)) k_ ∧ some k_ ≠ (u235001 : Value).ownBlock) (Kd.R_types (Kd.R_apart' (HO_244000.out) (Kd.S_typed HO_235001.out) (by decide)) BK243.out (by decide)) (fun k_ hk => ⟨⟨hk.1.1, hk.2⟩, hk.1.2⟩))).1 k_ hk_.symm) ?aF ?aO (Below.refl _ _) ?aS ?aL ?_; (case aP => exact k46_mkM _ _ _ (⟨x244000_4, t237⟩ : S46) (Kd.R_mono (Kd.R_tight rfl (Kd.R_mono (ok' := fun k_ => ((fun k_ => k_ ≠ gb242 ∧ k_ ≠ gb243)) k_ ∧ some k_ ≠ (u235001 : Value).ownBlock) (Kd.R_types (Kd.R_apart' (HO_244000.out) (Kd.S_typed HO_235001.out) (by decide)) BK243.out (by decide)) (fun k_ hk => ⟨⟨hk.1.1, hk.2⟩, hk.1.2⟩))) (fun _ h_ => h_))); (case aF => exact (fun k_ hk => ⟨Kd.freshB (g := gb242) (o := .cells #[.int .i64 t236, .int .i64 t237, .string t238] 42 (0, 0)) (bkx_ BK242.out) k_ hk, Kd.freshB (g := gb243) (o := .cells #[.slice Ao62 x244000_4.length co62, .int .i64 t237] 46 (0, 0)) (bkx_ BK243.out) k_ hk⟩)); (case aO => exact (sk_ (Kd.S_mono HO_235001.out (fun k_ hk => ⟨⟨hk.2.1, hk.2.2⟩, fun e_ => hk.1 e_⟩)))); (case aS => exact (keep_size (w := w) (g := g) (row := none) (by repeat (first | (with_reducible first | exact HK.out | apply KeepBut.set_ | apply keep_drewN | apply keep_drew | apply keep_alloc | refine keep_far ?_ GW229.out _ | refine keep_far ?_ GW234.out _ | refine keep_far ?_ GW242.out _ | refine keep_far ?_ GW243.out _) | exact HK.out)))); (case aL => have := LMc51.out; omega); intro v254 w61 ho hb hg hat; rw [← Ny253.out] at ho; have n0_ := Aside0.mk (blk_grown (g := gb229) (o := .cells #[.int .i64 x230000_2, .slice none 0 0] 29 (0, 0)) (bkx_ BK229.out) hg (Kd.S_ne HO_235001.out BK229.out (by decide))); have n1_ := Aside0.mk (blk_grown (g := gb234) (o := .cells #[.int .i64 t230, u235001] 29 (0, 0)) (bkx_ BK234.out) hg (Kd.S_ne HO_235001.out BK234.out (by decide))); have n2_ := Aside0.mk (blk_grown (g := gb242) (o := .cells #[.int .i64 t236, .int .i64 t237, .string t238] 42 (0, 0)) (bkx_ BK242.out) hg (Kd.S_ne HO_235001.out BK242.out (by decide))); have n3_ := Aside0.mk (blk_grown (g := gb243) (o := .cells #[.slice Ao62 x244000_4.length co62, .int .i64 t237] 46 (0, 0)) (bkx_ BK243.out) hg (Kd.S_away HO_235001.out (fun _ hk => hk.2.2))); have n4_ := Aside0.mk (IsS62.grown (by repeat (first | (with_reducible first | exact HI1.out | apply IsS62.alloc | apply IsS62.drewN | apply IsS62.drew | apply IsS62.set_0 | apply IsS62.set_1 | apply IsS62.set_2 | apply IsS62.far (hne := NB1_229.out) | apply IsS62.far (hne := NB1_234.out) | apply IsS62.far (hne := NB1_242.out) | apply IsS62.far (hne := NB1_243.out)) | exact HI1.out)) hg (IsS62.own_neS HI1.out HO_235001.out (by decide))); have n5_ := Aside0.mk (below_weaken (by repeat (first | (with_reducible first | exact HB.out | apply below_alloc | apply pw_below_drewN | apply below_drew1 | refine below_set ?_ (IsS62.ge HI1.out) | refine below_set ?_ GE229.out | refine below_set ?_ GE234.out | refine below_set ?_ GE242.out | refine below_set ?_ GE243.out) | exact HB.out)) HL.out hb); have n6_ := Aside0.mk (KeepBut.trans (by repeat (first | (with_reducible first | exact HK.out | apply KeepBut.set_ | apply keep_drewN | apply keep_drew | apply keep_alloc | refine keep_far ?_ GW229.out _ | refine keep_far ?_ GW234.out _ | refine keep_far ?_ GW242.out _ | refine keep_far ?_ GW243.out _) | exact HK.out)) (KeepBut.of_grown hg g) (Kd.S_base2 HO_235001.out)); have n7_ := Aside0.mk (ho); clear BK229; clear BK234; clear BK242; clear BK243; clear HI1; clear HB; clear HK; clear HO_235001; clear HO_244000; have BK229 := n0_; have BK234 := n1_; have BK242 := n2_; have BK243 := n3_; have HI1 := n4_; have HB := n5_; have HK := n6_; have HO255 := n7_; clear n0_ n1_ n2_ n3_ n4_ n5_ n6_ n7_; clear ho hb hg hat; obtain ⟨Ao63, co63, eo63⟩ := Kd.S_slice HO255.out; subst eo63; obtain ⟨hcz64_0, hcz64_1, hfz64_0, hfz64_1⟩ := b2_ BK234))
              go_roundg k4
              case measure => have := HJ3.out; have := HK2.out; have := HJ20.out; have := HK4.out; omega
              case rel => exact ⟨(x2000_4), (x2001_4), (x2002_4), (x230000_2), (y253), (.slice Ao63 y253.length co63), H', ⟨by have := HJ3.out; have := HK2.out; have := HJ20.out; have := HK4.out; omega⟩, ⟨by (with_reducible repeat (first | apply Kd.S_alloc | apply Kd.S_drewN | apply Kd.S_drew)); exact Kd.S_mono (Kd.S_far (p := ⟨gb234, 1, none⟩) (Kd.S_types HO255.out BK234.out (by decide)) (fun _ hk => hk.2) (.slice Ao63 y253.length co63)) (fun _ hk => trivial)⟩, ⟨(bf1_ NB229_234 (bkx_ BK229.out))⟩, ⟨by (with_reducible repeat (first | refine blk_drewN ?_ _ | refine blk_drew ?_ | refine blk_alloc ?_ _)); refine blk_put (cs := #[.int .i64 t230, u235001]) ?_ 1 _ rfl; (with_reducible repeat (first | refine blk_drewN ?_ _ | refine blk_drew ?_ | refine blk_alloc ?_ _)); exact BK234.out⟩, ⟨by repeat (first | (with_reducible first | exact HI1.out | apply IsS62.alloc | apply IsS62.drewN | apply IsS62.drew | apply IsS62.set_0 | apply IsS62.set_1 | apply IsS62.set_2 | apply IsS62.far (hne := NB1_229.out) | apply IsS62.far (hne := NB1_234.out) | apply IsS62.far (hne := NB1_242.out) | apply IsS62.far (hne := NB1_243.out)) | exact HI1.out)⟩, ⟨by repeat (first | (with_reducible first | exact HK.out | apply KeepBut.set_ | apply keep_drewN | apply keep_drew | apply keep_alloc | refine keep_far ?_ GW229.out _ | refine keep_far ?_ GW234.out _ | refine keep_far ?_ GW242.out _ | refine keep_far ?_ GW243.out _) | exact HK.out)⟩, ⟨by repeat (first | (with_reducible first | exact HB.out | apply below_alloc | apply pw_below_drewN | apply below_drew1 | refine below_set ?_ (IsS62.ge HI1.out) | refine below_set ?_ GE229.out | refine below_set ?_ GE234.out | refine below_set ?_ GE242.out | refine below_set ?_ GE243.out) | exact HB.out)⟩⟩
             ·rw [if_neg c51] at H
              exact absurd H (by simp)
         ·rw [if_neg c27] at H
          have c27b0 : (t236 == 1) = false := beq_eq_false_iff_ne.mpr c27
          have c27b1 : (t236 != 1) = true := bne_iff_ne.mpr c27
          simp only [Option.some.injEq, Prod.mk.injEq] at H
          obtain ⟨rfl, rfl, rfl, rfl, rfl, rfl⟩ := H
          go_wp2_with (first | ((with_reducible refine gate_callee (f := 28) rfl ?_); refine gsL_ (some 39) Try.func28 #[.pointer (some ⟨g, 0, none⟩)] ?_; (with_reducible refine (impl_reader_value.calls g x2000_2 x2001_2 x2002_2 t236 t237 t238 t239 t240 t241 w _ ?side1 ?side2 A26.out).mono ?_); (case side1 => repeat (first | (with_reducible first | exact HI1.out | apply IsS62.alloc | apply IsS62.drewN | apply IsS62.drew | apply IsS62.set_0 | apply IsS62.set_1 | apply IsS62.set_2 | apply IsS62.far (hne := NB1_229.out) | apply IsS62.far (hne := NB1_234.out)) | exact HI1.out)); (case side2 => repeat (first | (with_reducible first | exact HB.out | apply below_alloc | apply pw_below_drewN | apply below_drew1 | refine below_set ?_ (IsS62.ge HI1.out) | refine below_set ?_ GE229.out | refine below_set ?_ GE234.out) | exact HB.out)); rintro e w65 ⟨rfl, hi, hb, hk⟩; refine ⟨_, rfl, ?_⟩; have n0_ := Aside0.mk (Kd.S_mono (Kd.S_keep (IsS62.apartS (show IsS62 w _ g x2000_2 x2001_2 x2002_2 from by repeat (first | (with_reducible first | exact HI1.out | apply IsS62.alloc | apply IsS62.drewN | apply IsS62.drew | apply IsS62.set_0 | apply IsS62.set_1 | apply IsS62.set_2 | apply IsS62.far (hne := NB1_229.out) | apply IsS62.far (hne := NB1_234.out)) | exact HI1.out)) (sk_ HO_235001.out) (by decide)) hk (fun _ h => h.2)) (fun _ h => h.1)); have n1_ := Aside0.mk (KeepBut.blk hk (g' := gb229) (o := .cells #[.int .i64 x230000_2, .slice none 0 0] 29 (0, 0)) (bkx_ BK229.out) NB229_1.out (by simp)); have n2_ := Aside0.mk (KeepBut.blk hk (g' := gb234) (o := .cells #[.int .i64 t230, u235001] 29 (0, 0)) (bkx_ BK234.out) NB234_1.out (by simp)); have n3_ := Aside0.mk (KeepBut.trans (by repeat (first | (with_reducible first | exact HK.out | apply KeepBut.set_ | apply keep_drewN | apply keep_drew | apply keep_alloc | refine keep_far ?_ GW229.out _ | refine keep_far ?_ GW234.out _) | exact HK.out)) hk (.inl rfl)); have n4_ := Aside0.mk (hb); have n5_ := Aside0.mk (hi); clear HO_235001; clear BK229; clear BK234; clear HK; clear HB; clear HI1; have HO_235001 := n0_; have BK229 := n1_; have BK234 := n2_; have HK := n3_; have HB := n4_; have HI1 := n5_; clear n0_ n1_ n2_ n3_ n4_ n5_; (try clear hb); (try clear hb2); (try clear hk); (try clear hi)) | ((with_reducible refine gate_dst (N := 6) rfl ?_); (try (refine gate_guard (by rfl) ?_; dsimp only)); refine bx_ 6 #[.int .i64 0, .int .i64 0, .string (⟨#[]⟩ : ByteArray)] 42 ?_; intro gb242 hg w66 hbox hb; have n0_ := Aside0.mk (Kd.S_below (Kd.S_elderB (sk_ HO_235001.out) gb242 (Nat.le_of_eq hg.symm)) hb); have n1_ := bkb_ BK229 hb; have n2_ := bkb_ BK234 hb; have n3_ := Aside0.mk (IsS62.below (by repeat (first | (with_reducible first | exact HI1.out | apply IsS62.alloc | apply IsS62.drewN | apply IsS62.drew | apply IsS62.set_0 | apply IsS62.set_1 | apply IsS62.set_2 | apply IsS62.far (hne := NB1_229.out) | apply IsS62.far (hne := NB1_234.out)) | exact HI1.out)) hb); have n4_ := Aside0.mk (KeepBut.trans (by repeat (first | (with_reducible first | exact HK.out | apply KeepBut.set_ | apply keep_drewN | apply keep_drew | apply keep_alloc | refine keep_far ?_ GW229.out _ | refine keep_far ?_ GW234.out _) | exact HK.out)) (KeepBut.of_below hb g none) (.inl rfl)); have n5_ := Aside0.mk (below_step (by repeat (first | (with_reducible first | exact HB.out | apply below_alloc | apply pw_below_drewN | apply below_drew1 | refine below_set ?_ (IsS62.ge HI1.out) | refine below_set ?_ GE229.out | refine below_set ?_ GE234.out) | exact HB.out)) hb); have n6_ := Aside0.mk (hbox); have n7_ := Aside0.mk ((by rw [hg]; exact (keep_size (w := w) (g := g) (row := none) (by repeat (first | (with_reducible first | exact HK.out | apply KeepBut.set_ | apply keep_drewN | apply keep_drew | apply keep_alloc | refine keep_far ?_ GW229.out _ | refine keep_far ?_ GW234.out _) | exact HK.out))) : w.heap.size ≤ gb242)); have n8_ := Aside0.mk ((Nat.le_trans HW0.out (by rw [hg]; exact (keep_size (w := w) (g := g) (row := none) (by repeat (first | (with_reducible first | exact HK.out | apply KeepBut.set_ | apply keep_drewN | apply keep_drew | apply keep_alloc | refine keep_far ?_ GW229.out _ | refine keep_far ?_ GW234.out _) | exact HK.out))) : w.heap.size ≤ gb242) : w.heap.size ≤ gb242)); have n9_ := nl_ hg BK229; have n10_ := ng_ hg BK229; have n11_ := nl_ hg BK234; have n12_ := ng_ hg BK234; have n13_ := Aside0.mk ((by rw [hg]; exact Nat.ne_of_lt (IsS62.lt (show IsS62 w _ g t239 t240 t241 from by repeat (first | (with_reducible first | exact HI1.out | apply IsS62.alloc | apply IsS62.drewN | apply IsS62.drew | apply IsS62.set_0 | apply IsS62.set_1 | apply IsS62.set_2 | apply IsS62.far (hne := NB1_229.out) | apply IsS62.far (hne := NB1_234.out)) | exact HI1.out))) : g ≠ gb242)); have n14_ := Aside0.mk ((by rw [hg]; exact Nat.ne_of_gt (IsS62.lt (show IsS62 w _ g t239 t240 t241 from by repeat (first | (with_reducible first | exact HI1.out | apply IsS62.alloc | apply IsS62.drewN | apply IsS62.drew | apply IsS62.set_0 | apply IsS62.set_1 | apply IsS62.set_2 | apply IsS62.far (hne := NB1_229.out) | apply IsS62.far (hne := NB1_234.out)) | exact HI1.out))) : gb242 ≠ g)); clear HO_235001; clear BK229; clear BK234; clear HI1; clear HK; clear HB; have HO_235001 := n0_; have BK229 := n1_; have BK234 := n2_; have HI1 := n3_; have HK := n4_; have HB := n5_; have BK242 := n6_; have GW242 := n7_; have GE242 := n8_; have NB229_242 := n9_; have NB242_229 := n10_; have NB234_242 := n11_; have NB242_234 := n12_; have NB1_242 := n13_; have NB242_1 := n14_; clear n0_ n1_ n2_ n3_ n4_ n5_ n6_ n7_ n8_ n9_ n10_ n11_ n12_ n13_ n14_; clear hb hbox hg; have hnb67 := NB242_229.out; have hnc67 := NB229_242.out; have hnb68 := NB242_234.out; have hnc68 := NB234_242.out; have hnb69 := NB242_1.out; have hnc69 := NB1_242.out; obtain ⟨hcz70_0, hcz70_1, hcz70_2, hfz70_0, hfz70_1, hfz70_2⟩ := b3_ BK242; have hnb71 := NB229_234.out; have hnc71 := NB234_229.out; have hnb72 := NB229_1.out; have hnc72 := NB1_229.out; obtain ⟨hcz73_0, hcz73_1, hfz73_0, hfz73_1⟩ := b2_ BK229))
          refine bodyPost_ret (results_ct rfl _ _ gb229 29 #[.int .i64 0, .slice none 0 0] (0, 0) _ rfl (by (with_reducible repeat (first | refine blk_drewN ?_ _ | refine blk_drew ?_ | refine blk_alloc ?_ _)); refine blk_put (cs := #[.int .i64 0, .slice none 0 0]) ?_ 1 _ rfl; (with_reducible repeat (first | refine blk_drewN ?_ _ | refine blk_drew ?_ | refine blk_alloc ?_ _)); refine blk_put (cs := #[.int .i64 x230000_2, .slice none 0 0]) ?_ 0 _ rfl; (with_reducible repeat (first | refine blk_drewN ?_ _ | refine blk_drew ?_ | refine blk_alloc ?_ _)); refine blk_far ?_ NB229_242.out _; (with_reducible repeat (first | refine blk_drewN ?_ _ | refine blk_drew ?_ | refine blk_alloc ?_ _)); refine blk_far ?_ NB229_242.out _; (with_reducible repeat (first | refine blk_drewN ?_ _ | refine blk_drew ?_ | refine blk_alloc ?_ _)); refine blk_far ?_ NB229_242.out _; (with_reducible repeat (first | refine blk_drewN ?_ _ | refine blk_drew ?_ | refine blk_alloc ?_ _)); exact BK229.out) Try.underlying29 rfl (by kernel_rfl)) rfl ?_
          exact ⟨g, _, by first | rfl | (simp [errW_none, errW_some] <;> rfl) | (simp [*, errW_none, errW_some] <;> rfl), by first | exact Kd.S_nil _ _ _ _ _ | exact Kd.N_nil _ _ _ _ _ | exact Kd.V_nil _ _ _ _ _ | exact Kd.Q_nil _ _ _ _ _ | exact Kd.R_nil _ _ _ _ _, by repeat (first | (with_reducible first | exact HI1.out | apply IsS62.alloc | apply IsS62.drewN | apply IsS62.drew | apply IsS62.set_0 | apply IsS62.set_1 | apply IsS62.set_2 | apply IsS62.far (hne := NB1_229.out) | apply IsS62.far (hne := NB1_234.out) | apply IsS62.far (hne := NB1_242.out)) | exact HI1.out), by repeat (first | (with_reducible first | exact HB.out | apply below_alloc | apply pw_below_drewN | apply below_drew1 | refine below_set ?_ (IsS62.ge HI1.out) | refine below_set ?_ GE229.out | refine below_set ?_ GE234.out | refine below_set ?_ GE242.out) | exact HB.out), by repeat (first | (with_reducible first | exact HK.out | apply KeepBut.set_ | apply keep_drewN | apply keep_drew | apply keep_alloc | refine keep_far ?_ GW229.out _ | refine keep_far ?_ GW234.out _ | refine keep_far ?_ GW242.out _) | exact HK.out)⟩
        ·replace c25 := Bool.eq_false_iff.mpr c25
         subst c25
         have H1 : (if x2002_2 = true then (some (0, ([] : List (S46)), false, x2000_2, x2001_2, x2002_2)) else ((impl_BagOk.f kj20 t230 x235001_2).bind fun t235 => (if t235 = true then (some (t230, x235001_2, true, x2000_2, x2001_2, x2002_2)) else (some (0, ([] : List (S46)), false, x2000_2, x2001_2, x2002_2))))) = some (r1, r2, r3, r4, r5, r6) := by rw [if_neg (show ¬ (false = true) by decide)] at H; exact H
         clear H
         have H := H1
         clear H1
         by_cases c74 : x2002_2 = true
         ·subst c74
          have H1 : (some (0, ([] : List (S46)), false, x2000_2, x2001_2, true)) = some (r1, r2, r3, r4, r5, r6) := by rw [if_pos rfl] at H; exact H
          clear H
          have H := H1
          clear H1
          simp only [Option.some.injEq, Prod.mk.injEq] at H
          obtain ⟨rfl, rfl, rfl, rfl, rfl, rfl⟩ := H
          obtain ⟨HGz75, hgz75⟩ := HI1.out
          have hcz75_0 := cellS62_0 HGz75
          have hcz75_1 := cellS62_1 HGz75
          have hcz75_2 := cellS62_2 HGz75
          have hfz75_0 := blk_frozen HGz75 0
          have hfz75_1 := blk_frozen HGz75 1
          have hfz75_2 := blk_frozen HGz75 2
          clear HGz75 hgz75
          have hnb76 := NB229_234.out
          have hnc76 := NB234_229.out
          have hnb77 := NB229_1.out
          have hnc77 := NB1_229.out
          obtain ⟨hcz78_0, hcz78_1, hfz78_0, hfz78_1⟩ := b2_ BK229
          go_wp2
          refine bodyPost_ret (results_ct rfl _ _ gb229 29 #[.int .i64 0, .slice none 0 0] (0, 0) _ rfl (bp2_ (bkx_ BK229.out)) Try.underlying29 rfl (by kernel_rfl)) rfl ?_
          exact ⟨g, _, by first | rfl | (simp [errW_none, errW_some] <;> rfl) | (simp [*, errW_none, errW_some] <;> rfl), by first | exact Kd.S_nil _ _ _ _ _ | exact Kd.N_nil _ _ _ _ _ | exact Kd.V_nil _ _ _ _ _ | exact Kd.Q_nil _ _ _ _ _ | exact Kd.R_nil _ _ _ _ _, by repeat (first | (with_reducible first | exact HI1.out | apply IsS62.alloc | apply IsS62.drewN | apply IsS62.drew | apply IsS62.set_0 | apply IsS62.set_1 | apply IsS62.set_2 | apply IsS62.far (hne := NB1_229.out) | apply IsS62.far (hne := NB1_234.out)) | exact HI1.out), by repeat (first | (with_reducible first | exact HB.out | apply below_alloc | apply pw_below_drewN | apply below_drew1 | refine below_set ?_ (IsS62.ge HI1.out) | refine below_set ?_ GE229.out | refine below_set ?_ GE234.out) | exact HB.out), by repeat (first | (with_reducible first | exact HK.out | apply KeepBut.set_ | apply keep_drewN | apply keep_drew | apply keep_alloc | refine keep_far ?_ GW229.out _ | refine keep_far ?_ GW234.out _) | exact HK.out)⟩
         ·replace c74 := Bool.eq_false_iff.mpr c74
          subst c74
          have H1 : ((impl_BagOk.f kj20 t230 x235001_2).bind fun t235 => (if t235 = true then (some (t230, x235001_2, true, x2000_2, x2001_2, false)) else (some (0, ([] : List (S46)), false, x2000_2, x2001_2, false)))) = some (r1, r2, r3, r4, r5, r6) := by rw [if_neg (show ¬ (false = true) by decide)] at H; exact H
          clear H
          have H := H1
          clear H1
          replace H := Option.bind_eq_some_iff.mp H
          obtain ⟨t235, A790, H⟩ := H
          replace H : (if t235 = true then (some (t230, x235001_2, true, x2000_2, x2001_2, false)) else (some (0, ([] : List (S46)), false, x2000_2, x2001_2, false))) = some (r1, r2, r3, r4, r5, r6) := H
          have A79 := Aside0.mk A790
          clear A790
          by_cases c80 : t235 = true
          ·subst c80
           have H1 : (some (t230, x235001_2, true, x2000_2, x2001_2, false)) = some (r1, r2, r3, r4, r5, r6) := by rw [if_pos rfl] at H; exact H
           clear H
           have H := H1
           clear H1
           simp only [Option.some.injEq, Prod.mk.injEq] at H
           obtain ⟨rfl, rfl, rfl, rfl, rfl, rfl⟩ := H
           obtain ⟨HGz81, hgz81⟩ := HI1.out
           have hcz81_0 := cellS62_0 HGz81
           have hcz81_1 := cellS62_1 HGz81
           have hcz81_2 := cellS62_2 HGz81
           have hfz81_0 := blk_frozen HGz81 0
           have hfz81_1 := blk_frozen HGz81 1
           have hfz81_2 := blk_frozen HGz81 2
           clear HGz81 hgz81
           have hnb82 := NB234_229.out
           have hnc82 := NB229_234.out
           have hnb83 := NB234_1.out
           have hnc83 := NB1_234.out
           obtain ⟨hcz84_0, hcz84_1, hfz84_0, hfz84_1⟩ := b2_ BK234
           obtain ⟨Ao85, co85, eo85⟩ := Kd.S_slice HO_235001.out
           subst eo85
           go_wp2_with (first | (go_at_call 19; (with_reducible refine (impl_BagOk.calls kj20 t230 _ _ x235001_2 true _ ?side1 ?side2 A79.out).mono ?_); (case side1 => exact ck_ (Kd.S_reads' HO_235001.out).2.2); (case side2 => exact (Kd.S_reads' HO_235001.out).2.1); rintro e w86 ⟨rfl, hb⟩; have n0_ := Aside0.mk (Kd.S_below (sk_ HO_235001.out) hb); have n1_ := bkb_ BK229 hb; have n2_ := bkb_ BK234 hb; have n3_ := Aside0.mk (IsS62.below (by repeat (first | (with_reducible first | exact HI1.out | apply IsS62.alloc | apply IsS62.drewN | apply IsS62.drew | apply IsS62.set_0 | apply IsS62.set_1 | apply IsS62.set_2 | apply IsS62.far (hne := NB1_229.out) | apply IsS62.far (hne := NB1_234.out)) | exact HI1.out)) hb); have n4_ := Aside0.mk (KeepBut.trans (by repeat (first | (with_reducible first | exact HK.out | apply KeepBut.set_ | apply keep_drewN | apply keep_drew | apply keep_alloc | refine keep_far ?_ GW229.out _ | refine keep_far ?_ GW234.out _) | exact HK.out)) (KeepBut.of_below hb g none) (.inl rfl)); have n5_ := Aside0.mk (below_step (by repeat (first | (with_reducible first | exact HB.out | apply below_alloc | apply pw_below_drewN | apply below_drew1 | refine below_set ?_ (IsS62.ge HI1.out) | refine below_set ?_ GE229.out | refine below_set ?_ GE234.out) | exact HB.out)) hb); clear HO_235001; clear BK229; clear BK234; clear HI1; clear HK; clear HB; have HO_235001 := n0_; have BK229 := n1_; have BK234 := n2_; have HI1 := n3_; have HK := n4_; have HB := n5_; clear n0_ n1_ n2_ n3_ n4_ n5_; (try clear hb); (try clear hb2); (try clear hk); (try clear hi); obtain ⟨hcz87_0, hcz87_1, hfz87_0, hfz87_1⟩ := b2_ BK234; have hnb88 := NB229_1.out; have hnc88 := NB1_229.out; obtain ⟨hcz89_0, hcz89_1, hfz89_0, hfz89_1⟩ := b2_ BK229))
           refine bodyPost_ret (results_ct rfl _ _ gb229 29 #[.int .i64 t230, .slice Ao85 x235001_2.length co85] (0, 0) _ rfl (bp2_ (bkx_ BK229.out)) Try.underlying29 rfl (by kernel_rfl)) rfl ?_
           exact ⟨g, _, by first | rfl | (simp [errW_none, errW_some] <;> rfl) | (simp [*, errW_none, errW_some] <;> rfl), by (with_reducible repeat (first | apply Kd.S_alloc | apply Kd.S_drewN | apply Kd.S_drew)); exact Kd.S_mono (Kd.S_far (p := ⟨gb229, 1, none⟩) (Kd.S_far (p := ⟨gb229, 0, none⟩) (Kd.S_types HO_235001.out BK229.out (by decide)) (fun _ hk => hk.2) (.int .i64 t230)) (fun _ hk => hk.2) (.slice Ao85 x235001_2.length co85)) (fun _ hk => trivial), by repeat (first | (with_reducible first | exact HI1.out | apply IsS62.alloc | apply IsS62.drewN | apply IsS62.drew | apply IsS62.set_0 | apply IsS62.set_1 | apply IsS62.set_2 | apply IsS62.far (hne := NB1_229.out) | apply IsS62.far (hne := NB1_234.out)) | exact HI1.out), by repeat (first | (with_reducible first | exact HB.out | apply below_alloc | apply pw_below_drewN | apply below_drew1 | refine below_set ?_ (IsS62.ge HI1.out) | refine below_set ?_ GE229.out | refine below_set ?_ GE234.out) | exact HB.out), by repeat (first | (with_reducible first | exact HK.out | apply KeepBut.set_ | apply keep_drewN | apply keep_drew | apply keep_alloc | refine keep_far ?_ GW229.out _ | refine keep_far ?_ GW234.out _) | exact HK.out)⟩
          ·replace c80 := Bool.eq_false_iff.mpr c80
           subst c80
           have H1 : (some (0, ([] : List (S46)), false, x2000_2, x2001_2, false)) = some (r1, r2, r3, r4, r5, r6) := by rw [if_neg (show ¬ (false = true) by decide)] at H; exact H
           clear H
           have H := H1
           clear H1
           simp only [Option.some.injEq, Prod.mk.injEq] at H
           obtain ⟨rfl, rfl, rfl, rfl, rfl, rfl⟩ := H
           obtain ⟨HGz90, hgz90⟩ := HI1.out
           have hcz90_0 := cellS62_0 HGz90
           have hcz90_1 := cellS62_1 HGz90
           have hcz90_2 := cellS62_2 HGz90
           have hfz90_0 := blk_frozen HGz90 0
           have hfz90_1 := blk_frozen HGz90 1
           have hfz90_2 := blk_frozen HGz90 2
           clear HGz90 hgz90
           have hnb91 := NB234_229.out
           have hnc91 := NB229_234.out
           have hnb92 := NB234_1.out
           have hnc92 := NB1_234.out
           obtain ⟨hcz93_0, hcz93_1, hfz93_0, hfz93_1⟩ := b2_ BK234
           obtain ⟨Ao94, co94, eo94⟩ := Kd.S_slice HO_235001.out
           subst eo94
           go_wp2_with (first | (go_at_call 19; (with_reducible refine (impl_BagOk.calls kj20 t230 _ _ x235001_2 false _ ?side1 ?side2 A79.out).mono ?_); (case side1 => exact ck_ (Kd.S_reads' HO_235001.out).2.2); (case side2 => exact (Kd.S_reads' HO_235001.out).2.1); rintro e w95 ⟨rfl, hb⟩; have n0_ := Aside0.mk (Kd.S_below (sk_ HO_235001.out) hb); have n1_ := bkb_ BK229 hb; have n2_ := bkb_ BK234 hb; have n3_ := Aside0.mk (IsS62.below (by repeat (first | (with_reducible first | exact HI1.out | apply IsS62.alloc | apply IsS62.drewN | apply IsS62.drew | apply IsS62.set_0 | apply IsS62.set_1 | apply IsS62.set_2 | apply IsS62.far (hne := NB1_229.out) | apply IsS62.far (hne := NB1_234.out)) | exact HI1.out)) hb); have n4_ := Aside0.mk (KeepBut.trans (by repeat (first | (with_reducible first | exact HK.out | apply KeepBut.set_ | apply keep_drewN | apply keep_drew | apply keep_alloc | refine keep_far ?_ GW229.out _ | refine keep_far ?_ GW234.out _) | exact HK.out)) (KeepBut.of_below hb g none) (.inl rfl)); have n5_ := Aside0.mk (below_step (by repeat (first | (with_reducible first | exact HB.out | apply below_alloc | apply pw_below_drewN | apply below_drew1 | refine below_set ?_ (IsS62.ge HI1.out) | refine below_set ?_ GE229.out | refine below_set ?_ GE234.out) | exact HB.out)) hb); clear HO_235001; clear BK229; clear BK234; clear HI1; clear HK; clear HB; have HO_235001 := n0_; have BK229 := n1_; have BK234 := n2_; have HI1 := n3_; have HK := n4_; have HB := n5_; clear n0_ n1_ n2_ n3_ n4_ n5_; (try clear hb); (try clear hb2); (try clear hk); (try clear hi); have hnb96 := NB229_1.out; have hnc96 := NB1_229.out; obtain ⟨hcz97_0, hcz97_1, hfz97_0, hfz97_1⟩ := b2_ BK229))
           refine bodyPost_ret (results_ct rfl _ _ gb229 29 #[.int .i64 0, .slice none 0 0] (0, 0) _ rfl (bp2_ (bkx_ BK229.out)) Try.underlying29 rfl (by kernel_rfl)) rfl ?_
           exact ⟨g, _, by first | rfl | (simp [errW_none, errW_some] <;> rfl) | (simp [*, errW_none, errW_some] <;> rfl), by first | exact Kd.S_nil _ _ _ _ _ | exact Kd.N_nil _ _ _ _ _ | exact Kd.V_nil _ _ _ _ _ | exact Kd.Q_nil _ _ _ _ _ | exact Kd.R_nil _ _ _ _ _, by repeat (first | (with_reducible first | exact HI1.out | apply IsS62.alloc | apply IsS62.drewN | apply IsS62.drew | apply IsS62.set_0 | apply IsS62.set_1 | apply IsS62.set_2 | apply IsS62.far (hne := NB1_229.out) | apply IsS62.far (hne := NB1_234.out)) | exact HI1.out), by repeat (first | (with_reducible first | exact HB.out | apply below_alloc | apply pw_below_drewN | apply below_drew1 | refine below_set ?_ (IsS62.ge HI1.out) | refine below_set ?_ GE229.out | refine below_set ?_ GE234.out) | exact HB.out), by repeat (first | (with_reducible first | exact HK.out | apply KeepBut.set_ | apply keep_drewN | apply keep_drew | apply keep_alloc | refine keep_far ?_ GW229.out _ | refine keep_far ?_ GW234.out _) | exact HK.out)⟩

theorem impl_GetBag.calls (k : Nat) (a0 : ByteArray) (r1 : Int) (r2 : List (S46)) (r3 : Bool) (w : World) (h : impl_GetBag.f k a0 = some (r1, r2, r3)) :
  Calls Try.prog 11 #[.string a0] w fun e w' => ∃ v1_ : Value, e = .returned (.tuple #[.agg #[.int .i64 r1, v1_], .bool r3]) ∧ Kd.S k46 46 w' w.heap.size (fun _ => True) v1_ r2 ∧ Below w.heap.size w w' := by
 obtain ⟨⟨q1, q2, q3, q4, q5, q6⟩, hq, h⟩ := Option.bind_eq_some_iff.1 h
 obtain ⟨rfl, rfl, rfl⟩ : q1 = r1 ∧ q2 = r2 ∧ q3 = r3 := by simpa using h
 refine (impl_GetBag.calls_ k a0 q1 q2 q3 q4 q5 q6 w hq).mono ?_
 rintro e w' ⟨g, v, he, hs, _, hb, _⟩
 exact ⟨v, he, hs, hb⟩


/-! ### laws_markText: function 55 -/
def laws_markText.l0 : Nat → Int → ByteArray → Option (ByteArray)
 | 0, _, _ => none
 | k + 1, x0, x3 => if x0 > 0 then ((some (([(wrap64 (48 + (Int.tmod x0 10))) % 256] : List Int) : List Int)).bind fun y229 => (if (strOfNums y229).size + x3.size ≤ 9223372036854775807 then (laws_markText.l0 k (wrap64 (Int.tdiv x0 10)) ((strOfNums y229) ++ x3)) else (none))) else (if 1 + x3.size ≤ 9223372036854775807 then (some ((⟨#[109]⟩ : ByteArray) ++ x3)) else (none))
def laws_markText.f (k : Nat) (a0 : Int) : Option (ByteArray) := if a0 ≤ 0 then (some (⟨#[109, 48]⟩ : ByteArray)) else (laws_markText.l0 k a0 (⟨#[]⟩ : ByteArray))
set_option maxHeartbeats 8000000 in
set_option maxRecDepth 100000 in
theorem laws_markText.calls (k : Nat) (a0 : Int) (r : ByteArray) (w : World) (h : laws_markText.f k a0 = some r) :
  Calls Try.prog 55 #[.int .i64 a0] w fun e w' => e = .returned (.string r) ∧ Below w.heap.size w w' := by
 have HB := Aside0.mk (Below.refl w.heap.size w)
 have H : (if a0 ≤ 0 then (some (⟨#[109, 48]⟩ : ByteArray)) else (laws_markText.l0 k a0 (⟨#[]⟩ : ByteArray))) = some r := h
 clear h
 by_cases c2 : a0 ≤ 0
 ·rw [if_pos c2] at H
  have c2b0 : decide (a0 ≤ 0) = true := decide_eq_true c2
  clear c2
  obtain rfl := Option.some.inj H
  go_enter Try.func55, Try.ntmps55
  go_wp2
  go_ret
  exact ⟨er_, bb_⟩
 ·rw [if_neg c2] at H
  have c2b0 : decide (a0 ≤ 0) = false := decide_eq_false c2
  clear c2
  have H' := Aside0.mk H
  clear H
  go_enter Try.func55, Try.ntmps55
  go_wp2
  go_loopg [0, 3] k (fun kq v0 v3 w' => ∃ (x0_1 : Int) (x3_1 : ByteArray), v0 = .int .i64 x0_1 ∧ v3 = .string x3_1 ∧ Aside0 (laws_markText.l0 kq x0_1 x3_1 = some r) ∧ Aside0 (kq ≤ k) ∧ Aside0 (Below w.heap.size w w'))
  case atStart => exact ⟨(a0), ((⟨#[]⟩ : ByteArray)), rs_, rs_, H', ⟨Nat.le_refl _⟩, ⟨bb_⟩⟩
  case round =>
   clear H'
   try clear c2
   try clear c2b0
   try clear p2
   obtain ⟨x0_1, x3_1, rfl, rfl, HA, HK1, HB⟩ := hrel
   cases gk with
   | zero => exact absurd HA.out (by simp [laws_markText.l0])
   | succ k1 =>
    have H := HA.out
    clear HA
    simp only [laws_markText.l0] at H
    by_cases c3 : x0_1 > 0
    ·rw [if_pos c3] at H
     have c3b0 : decide (0 < x0_1) = true := decide_eq_true c3
     clear c3
     obtain ⟨y229, hy229⟩ : ∃ y_ : List Int, y_ = (([(wrap64 (48 + (Int.tmod x0_1 10))) % 256] : List Int)) := ⟨_, rfl⟩
     replace H : (if (strOfNums y229).size + x3_1.size ≤ 9223372036854775807 then (laws_markText.l0 k1 (wrap64 (Int.tdiv x0_1 10)) ((strOfNums y229) ++ x3_1)) else (none)) = some r := by first | (rw [hy229]; with_reducible exact H) | (have H2_ := (Option.bind_some _ _).symm.trans H; rw [hy229]; with_reducible exact H2_) | (have H2_ := (Option.bind_some _ _).symm.trans H; with_reducible exact H2_) | with_reducible exact H | (rw [hy229]; exact H) | exact H
     have Ny229 := Aside0.mk hy229
     clear hy229
     by_cases c4 : (strOfNums y229).size + x3_1.size ≤ 9223372036854775807
     ·rw [if_pos c4] at H
      have c4b0 := eq_true c4
      have c4b1 : decide ((strOfNums y229).size + x3_1.size ≤ 9223372036854775807) = true := decide_eq_true c4
      try have c4b2 : (9223372036854775807 < (strOfNums y229).size + x3_1.size) = False := eq_false (Nat.not_lt.2 c4)
      have H' := Aside0.mk H
      clear H
      go_wp2_with (first | ((with_reducible refine gate_dst (N := 12) rfl ?_); refine Kd.R_lit (Kd.int .u8) _ 5 ?hg (N := 12) ?hd (xs := ([(wrap64 (48 + (Int.tmod x0_1 10))) % 256] : List Int)) (inner := [.int .u8 ((wrap64 (48 + (Int.tmod x0_1 10))) % 256)]) (ok := fun _ => True) (okp := fun _ => True) ?hr ?hp (fun _ hk => hk) trivial (Below.refl _ _) (Nat.le_refl _) (by simp) ?_; (case hd => rfl); (case hg => rfl); (case hr => first | (go_simp; done) | (go_simp; rfl)); (case hp => exact (Reps.one (show Kd.M (Kd.int .u8) _ _ _ ((wrap64 (48 + (Int.tmod x0_1 10))) % 256) [.int .u8 ((wrap64 (48 + (Int.tmod x0_1 10))) % 256)] from rfl) (Reps.none _ _))); intro v230 w5 ho6 hb hg_ hnew_; clear hg_ hnew_; (first | rw [← Ny229.out] at ho6 | (simp only [Int.reduceToNat] at ho6; rw [← Ny229.out] at ho6)); have HO231 := Aside0.mk (Kd.R_lower ho6 (below_size bb_)); replace HB := bs_ hb; clear hb ho6; have hcv7 := own_string (P := Try.prog) Try.underlying39 Try.underlying5 Try.underlying9 (Kd.own_of_R HO231.out)))
      go_roundg k1
      case measure => have := HK1.out; omega
      case rel => exact ⟨(wrap64 (Int.tdiv x0_1 10)), ((strOfNums y229) ++ x3_1), rs_, rs_, H', ⟨by have := HK1.out; omega⟩, ⟨bb_⟩⟩
     ·rw [if_neg c4] at H
      exact absurd H (by simp)
    ·rw [if_neg c3] at H
     have c3b0 : decide (0 < x0_1) = false := decide_eq_false c3
     clear c3
     by_cases c8 : 1 + x3_1.size ≤ 9223372036854775807
     ·rw [if_pos c8] at H
      have c8b0 := eq_true c8
      have c8b1 : decide (1 + x3_1.size ≤ 9223372036854775807) = true := decide_eq_true c8
      try have c8b2 : (9223372036854775807 < 1 + x3_1.size) = False := eq_false (Nat.not_lt.2 c8)
      obtain rfl := Option.some.inj H
      go_wp2
      go_ret
      exact ⟨er_, bb_⟩
     ·rw [if_neg c8] at H
      exact absurd H (by simp)

end Go.Proofs.Ytnibegacjmnhoaa.PFnExactGetBag
