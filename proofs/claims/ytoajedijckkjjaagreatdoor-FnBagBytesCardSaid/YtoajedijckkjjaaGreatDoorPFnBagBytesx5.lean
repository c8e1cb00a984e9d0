-- WRITTEN BY xprint.py, a program of this session over the kit's printer: by nobody's hand
-- PRESSED4 -- PRESSED TWICE3 -- PRESSED TWICE
import Derived.Test.YtoajedijckkjjaaGreatDoorPress
import Derived.Test.YtoajedijckkjjaaGreatDoorPress3
import Derived.Test.YtoajedijckkjjaaGreatDoorPFnBagBytesx0
import Derived.Test.YtoajedijckkjjaaGreatDoorPFnBagBytesx3
import Derived.Test.YtoajedijckkjjaaGreatDoorPFnBagBytesx4
namespace Go.Proofs.YtoajedijckkjjaaGreatDoor.PFnBagBytes
open Go.RowKit Go.Proofs.YtoajedijckkjjaaGreatDoorW.PrintWords Go.Proofs.YtoajedijckkjjaaGreatDoorW.PrintLast Go.Proofs.YtoajedijckkjjaaGreatDoorW.PrintMore
attribute [local go_sem] max2_int min2_int max_two min_two max_three min_three max_four min_four
set_option linter.unusedVariables false
set_option linter.unusedSimpArgs false
/-! ### impl_GetBag: function 8 -/
-- by hand
mutual
def impl_GetBag.j0 : Nat → ByteArray → Bool → ByteArray → Int → Bool → Int → Option (Int × (List (S47)) × Bool × ByteArray × Int × Bool)
 | 0, _, _, _, _, _, _ => none
 | k + 1, x0, x22, x2000, x2001, x2002, x235000 => if x22 = true then (some (0, ([] : List (S47)), false, x2000, x2001, x2002)) else (impl_GetBag.l0 k x0 x2000 x2001 x2002 x235000 ([] : List (S47)))
def impl_GetBag.l0 : Nat → ByteArray → ByteArray → Int → Bool → Int → List (S47) → Option (Int × (List (S47)) × Bool × ByteArray × Int × Bool)
 | 0, _, _, _, _, _, _ => none
 | k + 1, x0, x2000, x2001, x2002, x235000, x235001 => if x2002 = true then (impl_GetBag.j2 k x0 false x2000 x2001 x2002 x235000 x235001) else (impl_GetBag.j2 k x0 (decide (x2001 < (x0.size : Int))) x2000 x2001 x2002 x235000 x235001)
def impl_GetBag.j2 : Nat → ByteArray → Bool → ByteArray → Int → Bool → Int → List (S47) → Option (Int × (List (S47)) × Bool × ByteArray × Int × Bool)
 | 0, _, _, _, _, _, _, _ => none
 | k + 1, x0, x37, x2000, x2001, x2002, x235000, x235001 => if x37 = true then ((impl_reader_value.f x2000 x2001 x2002).bind fun bt236 => (if bt236.1 = 1 then (impl_GetBag.l1 k x0 x235000 0 bt236.2.2.2.1 bt236.2.2.2.2.1 bt236.2.2.2.2.2 x235000 x235001 ([] : List (S50)) bt236.2.1) else (some (0, ([] : List (S47)), false, bt236.2.2.2.1, bt236.2.2.2.2.1, bt236.2.2.2.2.2)))) else (if x2002 = true then (some (0, ([] : List (S47)), false, x2000, x2001, x2002)) else ((impl_BagOk.f k x235000 x235001).bind fun t235 => (if t235 = true then (some (x235000, x235001, true, x2000, x2001, x2002)) else (some (0, ([] : List (S47)), false, x2000, x2001, x2002)))))
def impl_GetBag.l1 : Nat → ByteArray → Int → Int → ByteArray → Int → Bool → Int → List (S47) → List (S50) → Int → Option (Int × (List (S47)) × Bool × ByteArray × Int × Bool)
 | 0, _, _, _, _, _, _, _, _, _, _ => none
 | k + 1, x0, x48, x49, x2000, x2001, x2002, x235000, x235001, x244000, x244001 => if x49 < x48 then ((impl_reader_value.f x2000 x2001 x2002).bind fun bt244 => (if x244000.length < 4398046511104 then (impl_GetBag.l1 k x0 x48 (wrap64 (x49 + 1)) bt244.2.2.2.1 bt244.2.2.2.2.1 bt244.2.2.2.2.2 x235000 x235001 (x244000 ++ [(⟨bt244.1, bt244.2.1, bt244.2.2.1⟩ : S50)]) x244001) else (none))) else (if x235001.length < 4398046511104 then (impl_GetBag.l0 k x0 x2000 x2001 x2002 x235000 (x235001 ++ [(⟨x244000, x244001⟩ : S47)])) else (none))
end
def impl_GetBag.r (k : Nat) (a0 : ByteArray) (s1_0 : ByteArray) (s1_1 : Int) (s1_2 : Bool) : Option (Int × (List (S47)) × Bool × ByteArray × Int × Bool) := (impl_reader_size.f s1_0 s1_1 s1_2 1).bind fun bt230 => (if bt230.2.2.2 = true then (impl_GetBag.j0 k a0 true bt230.2.1 bt230.2.2.1 bt230.2.2.2 bt230.1) else (impl_GetBag.j0 k a0 (decide (bt230.1 > 12)) bt230.2.1 bt230.2.2.1 bt230.2.2.2 bt230.1))
def impl_GetBag.T12 : Bool × List (List Nat × List Nat) := (true, [([], []), ([0], [0]), ([], []), ([2], [2]), ([3], [3]), ([1, 4, 3], [1, 4]), ([0, 1, 2, 3, 4, 5], []), ([6, 5, 5, 0, 1, 2, 3, 4, 5], [5, 6])])
def impl_GetBag.B12 : List Nat := [0, 1, 0, 4, 12, 31, 63, 127]
theorem impl_GetBag.tab12 : rtab .any (opsOf Tryz.f8 12) = impl_GetBag.T12 := by kernel_rfl
theorem impl_GetBag.bits12 : waitsOk impl_GetBag.T12.2 impl_GetBag.B12 = true := by kernel_rfl
def impl_GetBag.f (k : Nat) (a0 : ByteArray) : Option (Int × (List (S47)) × Bool) := (impl_GetBag.r k a0 a0 0 false).bind fun b => some (b.1, b.2.1, b.2.2.1)
theorem isRd {w W : World} {g : Nat} {s : ByteArray} {n : Int} {b : Bool} (h : W.heap[g]? = some (.cells #[.string s, .int .i64 n, .bool b] 58 (0, 0))) (hg : w.heap.size ≤ g) : IsS58 w W g s n b := ⟨h, hg⟩
theorem ab19_ {w0 W : World} {g : Nat} {f0 : ByteArray} {f1 : Int} {f2 : Bool} (h : IsS58 w0 W g f0 f1 f2 := by repeat (first | (with_reducible first | exact HI1.out | apply IsS58.alloc | apply IsS58.drewN | apply IsS58.drew | apply IsS58.set_0 | apply IsS58.set_1 | apply IsS58.set_2 | apply IsS58.far (hne := NB1_229.out)) | exact HI1.out)) : IsS58 w0 W g f0 f1 f2 := h
theorem ab20_ {B : Nat} {w W : World} (h : Below B w W := by repeat (first | (with_reducible first | exact HB.out | apply below_alloc | apply pw_below_drewN | apply below_drew1 | refine below_set ?_ (IsS58.ge HI1.out) | refine below_set ?_ GE229.out) | exact HB.out)) : Below B w W := h
theorem ab21_ {w W : World} {g : Nat} (h : KeepBut w W g none := by repeat (first | (with_reducible first | exact HK.out | apply KeepBut.set_ | apply keep_drewN | apply keep_drew | apply keep_alloc | refine keep_far ?_ GW229.out _) | exact HK.out)) : KeepBut w W g none := h
theorem ab22_ {w0 W : World} {g : Nat} {f0 : ByteArray} {f1 : Int} {f2 : Bool} (h : IsS58 w0 W g f0 f1 f2 := by repeat (first | (with_reducible first | exact HI1.out | apply IsS58.alloc | apply IsS58.drewN | apply IsS58.drew | apply IsS58.set_0 | apply IsS58.set_1 | apply IsS58.set_2 | apply IsS58.far (hne := NB1_229.out) | apply IsS58.far (hne := NB1_234.out)) | exact HI1.out)) : IsS58 w0 W g f0 f1 f2 := h
theorem ab23_ {w W : World} {g : Nat} (h : KeepBut w W g none := by repeat (first | (with_reducible first | exact HK.out | apply KeepBut.set_ | apply keep_drewN | apply keep_drew | apply keep_alloc | refine keep_far ?_ GW229.out _ | refine keep_far ?_ GW234.out _) | exact HK.out)) : KeepBut w W g none := h
theorem ab24_ {B : Nat} {w W : World} (h : Below B w W := by repeat (first | (with_reducible first | exact HB.out | apply below_alloc | apply pw_below_drewN | apply below_drew1 | refine below_set ?_ (IsS58.ge HI1.out) | refine below_set ?_ GE229.out | refine below_set ?_ GE234.out) | exact HB.out)) : Below B w W := h
theorem ab25_ {w0 W : World} {g : Nat} {f0 : ByteArray} {f1 : Int} {f2 : Bool} (h : IsS58 w0 W g f0 f1 f2 := by repeat (first | (with_reducible first | exact HI1.out | apply IsS58.alloc | apply IsS58.drewN | apply IsS58.drew | apply IsS58.set_0 | apply IsS58.set_1 | apply IsS58.set_2 | apply IsS58.far (hne := NB1_229.out) | apply IsS58.far (hne := NB1_234.out) | apply IsS58.far (hne := NB1_242.out)) | exact HI1.out)) : IsS58 w0 W g f0 f1 f2 := h
theorem ab26_ {w W : World} {g : Nat} (h : KeepBut w W g none := by repeat (first | (with_reducible first | exact HK.out | apply KeepBut.set_ | apply keep_drewN | apply keep_drew | apply keep_alloc | refine keep_far ?_ GW229.out _ | refine keep_far ?_ GW234.out _ | refine keep_far ?_ GW242.out _) | exact HK.out)) : KeepBut w W g none := h
theorem ab27_ {B : Nat} {w W : World} (h : Below B w W := by repeat (first | (with_reducible first | exact HB.out | apply below_alloc | apply pw_below_drewN | apply below_drew1 | refine below_set ?_ (IsS58.ge HI1.out) | refine below_set ?_ GE229.out | refine below_set ?_ GE234.out | refine below_set ?_ GE242.out) | exact HB.out)) : Below B w W := h
theorem ab28_ {w0 W : World} {g : Nat} {f0 : ByteArray} {f1 : Int} {f2 : Bool} (h : IsS58 w0 W g f0 f1 f2 := by repeat (first | (with_reducible first | exact HI1.out | apply IsS58.alloc | apply IsS58.drewN | apply IsS58.drew | apply IsS58.set_0 | apply IsS58.set_1 | apply IsS58.set_2 | apply IsS58.far (hne := NB1_229.out) | apply IsS58.far (hne := NB1_234.out) | apply IsS58.far (hne := NB1_242.out) | apply IsS58.far (hne := NB1_243.out)) | exact HI1.out)) : IsS58 w0 W g f0 f1 f2 := h
theorem ab29_ {w W : World} {g : Nat} (h : KeepBut w W g none := by repeat (first | (with_reducible first | exact HK.out | apply KeepBut.set_ | apply keep_drewN | apply keep_drew | apply keep_alloc | refine keep_far ?_ GW229.out _ | refine keep_far ?_ GW234.out _ | refine keep_far ?_ GW242.out _ | refine keep_far ?_ GW243.out _) | exact HK.out)) : KeepBut w W g none := h
theorem ab30_ {B : Nat} {w W : World} (h : Below B w W := by repeat (first | (with_reducible first | exact HB.out | apply below_alloc | apply pw_below_drewN | apply below_drew1 | refine below_set ?_ (IsS58.ge HI1.out) | refine below_set ?_ GE229.out | refine below_set ?_ GE234.out | refine below_set ?_ GE242.out | refine below_set ?_ GE243.out) | exact HB.out)) : Below B w W := h
set_option maxHeartbeats 8000000 in
set_option maxRecDepth 100000 in
theorem impl_GetBag.calls_ (k : Nat) (a0 : ByteArray) (r1 : Int) (r2 : List (S47)) (r3 : Bool) (r4 : ByteArray) (r5 : Int) (r6 : Bool) (w : World) (h : impl_GetBag.r k a0 a0 0 false = some (r1, r2, r3, r4, r5, r6)) :
  Calls Tryz.prog 8 #[.string a0] w fun e w' => ∃ (g : Nat) (v1_ : Value), e = .returned (.tuple #[.agg #[.int .i64 r1, v1_], .bool r3]) ∧ Kd.S k47 47 w' w.heap.size (fun _ => True) v1_ r2 ∧ IsS58 w w' g r4 r5 r6 ∧ Below w.heap.size w w' ∧ KeepBut w w' g none := by
 have HL := am_ (Nat.le_refl w.heap.size)
 have HW0 := am_ (Nat.le_refl w.heap.size)
 have HB := am_ (Below.refl w.heap.size w)
 have hu26 := Tryz.underlying26
 have hu50 := Tryz.underlying50
 have hu47 := Tryz.underlying47
 have H : ((impl_reader_size.f a0 0 false 1).bind fun bt230 => (if bt230.2.2.2 = true then (impl_GetBag.j0 k a0 true bt230.2.1 bt230.2.2.1 bt230.2.2.2 bt230.1) else (impl_GetBag.j0 k a0 (decide (bt230.1 > 12)) bt230.2.1 bt230.2.2.1 bt230.2.2.2 bt230.1))) = some (r1, r2, r3, r4, r5, r6) := h
 clear h
 replace H := bsi_ H
 obtain ⟨⟨t230, t231, t232, t233⟩, A30, H⟩ := H
 try dsimp only at H
 have A3 := am_ A30
 clear A30
 have HC4 := am_ H
 clear H
 go_enter Tryz.func8, Tryz.ntmps8
 go_upto_region 3 with (first | ((with_reducible refine gate_dst (N := 2) rfl ?_); refine bx_ 2 #[.int .i64 0, .slice none 0 0] 26 ?_; intro gb229 hg w5 hbox hb; have GW229 := gw_ hg; have GE229 := gw_ hg; replace HB := bs_ hb; have BK229 := am_ hbox; clear hb hbox hg) | ((with_reducible refine gate_dst (N := 10) rfl ?_); refine bx_ 10 #[.string a0, .int .i64 0, .bool false] 58 ?_; intro g hg wr_ hbox hb; have NB229_g := nl_ hg BK229; have NBg_229 := ng_ hg BK229; have NB1_229 := am_ (Ne.symm NB229_g.out); have NB229_1 := NB229_g; have HI1 := am_ (isRd hbox (gw_ hg).out); replace BK229 := bkb_ BK229 hb; replace HB := bs_ hb; have HK := am_ (KeepBut.of_below HB.out g none); clear NB229_g NBg_229 hb hbox hg) | ((with_reducible refine gate_callee (f := 25) rfl ?_); refine gsL_ (some 12) Tryz.func25 #[.pointer (some ⟨g, 0, none⟩), .int .i64 1] ?_; (with_reducible refine (impl_reader_size.calls g a0 0 false 1 t230 t231 t232 t233 w _ ?side1 ?side2 A3.out).mono ?_); (case side1 => exact ab19_); (case side2 => exact ab20_); rintro e w6 ⟨rfl, hi, hb, hk⟩; refine ⟨_, rfl, ?_⟩; replace BK229 := am_ (KeepBut.blk hk (g' := gb229) (o := .cells #[.int .i64 0, .slice none 0 0] 26 (0, 0)) (bkx_ BK229.out) NB229_1.out (by simp)); replace HK := am_ (KeepBut.trans ab21_ hk (.inl rfl)); replace HI1 := am_ (hi); replace HB := am_ (hb); (try clear hb); (try clear hb2); (try clear hk); (try clear hi)) | ((with_reducible refine gate_dst (N := 5) rfl ?_); (try (refine gate_guard (by rfl) ?_; dsimp only)); refine bx_ 5 #[.int .i64 0, .slice none 0 0] 26 ?_; intro gb234 hg w7 hbox hb; have n0_ := am_ (IsS58.below ab19_ hb); have n1_ := bkb_ BK229 hb; have n2_ := am_ (KeepBut.trans ab21_ (KeepBut.of_below hb g none) (.inl rfl)); have n3_ := am_ (below_step ab20_ hb); have n4_ := am_ (hbox); have n5_ := am_ ((by rw [hg]; exact (kz_ (g := g) ab21_) : w.heap.size ≤ gb234)); have n6_ := am_ ((Nat.le_trans HW0.out (by rw [hg]; exact (kz_ (g := g) ab21_) : w.heap.size ≤ gb234) : w.heap.size ≤ gb234)); have n7_ := nl_ hg BK229; have n8_ := ng_ hg BK229; have n9_ := am_ ((by rw [hg]; exact Nat.ne_of_lt (IsS58.lt (show IsS58 w _ g t231 t232 t233 from ab19_)) : g ≠ gb234)); have n10_ := am_ ((by rw [hg]; exact Nat.ne_of_gt (IsS58.lt (show IsS58 w _ g t231 t232 t233 from ab19_)) : gb234 ≠ g)); clear HI1; clear BK229; clear HK; clear HB; have HI1 := n0_; have BK229 := n1_; have HK := n2_; have HB := n3_; have BK234 := n4_; have GW234 := n5_; have GE234 := n6_; have NB229_234 := n7_; have NB234_229 := n8_; have NB1_234 := n9_; have NB234_1 := n10_; clear n0_ n1_ n2_ n3_ n4_ n5_ n6_ n7_ n8_ n9_ n10_; clear hb hbox hg; have hnb8 := NB234_229.out; have hnc8 := NB229_234.out; have hnb9 := NB234_1.out; have hnc9 := NB1_234.out; obtain ⟨hcz10_0, hcz10_1, hfz10_0, hfz10_1⟩ := b2_ BK234))
 (try simp only [Act.put, List.setIfInBounds_toArray, List.set_cons_zero, List.set_cons_succ])
 go_cut [22] (fun v22 wc => ∃ (kq : Nat) (x22_3 : Bool), v22 = .bool x22_3 ∧ Aside0 (impl_GetBag.j0 kq a0 x22_3 t231 t232 t233 t230 = some (r1, r2, r3, r4, r5, r6)) ∧ Aside0 (kq ≤ k) ∧ Aside0 (wc.heap[gb229]? = some (.cells #[.int .i64 0, (.slice none 0 0)] 26 (0, 0))) ∧ Aside0 (wc.heap[gb234]? = some (.cells #[.int .i64 t230, (.slice none 0 0)] 26 (0, 0))) ∧ Aside0 (IsS58 w wc g t231 t232 t233) ∧ Aside0 (KeepBut w wc g none) ∧ Aside0 (Below w.heap.size w wc))
 case first =>
  have H := HC4.out
  clear HC4
  by_cases c11 : t233 = true
  ·subst c11
   rw [if_pos rfl] at H
   have H' := am_ H
   clear H
   obtain ⟨HGz12, hgz12⟩ := HI1.out
   have hcz12_0 := cellS58_0 HGz12
   have hcz12_1 := cellS58_1 HGz12
   have hcz12_2 := cellS58_2 HGz12
   have hfz12_0 := blk_frozen HGz12 0
   have hfz12_1 := blk_frozen HGz12 1
   have hfz12_2 := blk_frozen HGz12 2
   clear HGz12 hgz12
   go_wp2
   go_meet
   case rel => exact ⟨_, (true), rs_, H', ⟨by first | omega | exact Nat.le_refl _⟩, ⟨(bf2_ NB229_234 (bkx_ BK229.out))⟩, ⟨(bp2_ (bkx_ BK234.out))⟩, ⟨ab22_⟩, ⟨ab23_⟩, ⟨ab24_⟩⟩
  ·replace c11 := Bool.eq_false_iff.mpr c11
   subst c11
   rw [if_neg (show ¬ (false = true) by decide)] at H
   have H' := am_ H
   clear H
   obtain ⟨HGz13, hgz13⟩ := HI1.out
   have hcz13_0 := cellS58_0 HGz13
   have hcz13_1 := cellS58_1 HGz13
   have hcz13_2 := cellS58_2 HGz13
   have hfz13_0 := blk_frozen HGz13 0
   have hfz13_1 := blk_frozen HGz13 1
   have hfz13_2 := blk_frozen HGz13 2
   clear HGz13 hgz13
   have hnb14 := NB234_229.out
   have hnc14 := NB229_234.out
   have hnb15 := NB234_1.out
   have hnc15 := NB1_234.out
   obtain ⟨hcz16_0, hcz16_1, hfz16_0, hfz16_1⟩ := b2_ BK234
   go_wp2
   go_meet
   case rel => exact ⟨_, (decide (t230 > 12)), rs_, H', ⟨by first | omega | exact Nat.le_refl _⟩, ⟨(bf2_ NB229_234 (bkx_ BK229.out))⟩, ⟨(bp2_ (bkx_ BK234.out))⟩, ⟨ab22_⟩, ⟨ab23_⟩, ⟨ab24_⟩⟩
 case rest =>
  clear HC4
  try clear c1
  try clear c2
  try clear p2
  try clear c8
  try clear c9
  try clear c11
  try clear c14
  try clear c15
  try clear hcz10_0
  try clear hcz10_1
  try clear hcz12_0
  try clear hcz12_1
  try clear hcz12_2
  try clear hcz13_0
  try clear hcz13_1
  try clear hcz13_2
  try clear hcz16_0
  try clear hcz16_1
  try clear hfz10_0
  try clear hfz10_1
  try clear hfz12_0
  try clear hfz12_1
  try clear hfz12_2
  try clear hfz13_0
  try clear hfz13_1
  try clear hfz13_2
  try clear hfz16_0
  try clear hfz16_1
  obtain ⟨kq, x22_3, rfl, HA, HJ3, BK229, BK234, HI1, HK, HB⟩ := hcut
  cases kq with
  | zero => exact absurd HA.out (by simp [impl_GetBag.j0])
  | succ kj3 =>
   have H := HA.out
   clear HA
   simp only [impl_GetBag.j0] at H
   by_cases c17 : x22_3 = true
   ·subst c17
    rw [if_pos rfl] at H
    simp only [Option.some.injEq, Prod.mk.injEq] at H
    obtain ⟨rfl, rfl, rfl, rfl, rfl, rfl⟩ := H
    have hnb18 := NB229_234.out
    have hnc18 := NB234_229.out
    have hnb19 := NB229_1.out
    have hnc19 := NB1_229.out
    obtain ⟨hcz20_0, hcz20_1, hfz20_0, hfz20_1⟩ := b2_ BK229
    go_wp2
    refine bodyPost_ret (results_ct rfl _ _ gb229 26 #[.int .i64 0, .slice none 0 0] (0, 0) _ rfl (bp2_ (bkx_ BK229.out)) Tryz.underlying26 rfl (by kernel_rfl)) rfl ?_
    exact ⟨g, _, rr_, by first | exact Kd.S_nil _ _ _ _ _ | exact Kd.N_nil _ _ _ _ _ | exact Kd.V_nil _ _ _ _ _ | exact Kd.Q_nil _ _ _ _ _ | exact Kd.R_nil _ _ _ _ _, ab22_, ab24_, ab23_⟩
   ·replace c17 := Bool.eq_false_iff.mpr c17
    subst c17
    rw [if_neg (show ¬ (false = true) by decide)] at H
    have H' := am_ H
    clear H
    go_wp2
    go_loopg [] kj3 (fun kq w' => ∃ (x2000_2 : ByteArray) (x2001_2 : Int) (x2002_2 : Bool) (x230000_2 : Int) (x235001_2 : List (S47)) (u235001 : Value), Aside0 (impl_GetBag.l0 kq a0 x2000_2 x2001_2 x2002_2 t230 x235001_2 = some (r1, r2, r3, r4, r5, r6)) ∧ Aside0 (kq ≤ kj3) ∧ Aside0 (Kd.S k47 47 w' w.heap.size (fun _ => True) u235001 x235001_2) ∧ Aside0 (w'.heap[gb229]? = some (.cells #[.int .i64 x230000_2, (.slice none 0 0)] 26 (0, 0))) ∧ Aside0 (w'.heap[gb234]? = some (.cells #[.int .i64 t230, u235001] 26 (0, 0))) ∧ Aside0 (IsS58 w w' g x2000_2 x2001_2 x2002_2) ∧ Aside0 (KeepBut w w' g none) ∧ Aside0 (Below w.heap.size w w'))
    case atStart => exact ⟨(t231), (t232), (t233), (0), (([] : List (S47))), (.slice none 0 0), H', ⟨Nat.le_refl _⟩, ⟨by first | exact Kd.S_nil _ _ _ _ _ | exact Kd.N_nil _ _ _ _ _ | exact Kd.V_nil _ _ _ _ _ | exact Kd.Q_nil _ _ _ _ _ | exact Kd.R_nil _ _ _ _ _⟩, ⟨bkx_ BK229.out⟩, ⟨bkx_ BK234.out⟩, ⟨ab22_⟩, ⟨ab23_⟩, ⟨ab24_⟩⟩
    case round =>
     clear H'
     try clear c1
     try clear c2
     try clear p2
     try clear c8
     try clear c9
     try clear c11
     try clear c14
     try clear c15
     try clear c17
     try clear c18
     try clear c19
     try clear hcz10_0
     try clear hcz10_1
     try clear hcz12_0
     try clear hcz12_1
     try clear hcz12_2
     try clear hcz13_0
     try clear hcz13_1
     try clear hcz13_2
     try clear hcz16_0
     try clear hcz16_1
     try clear hcz20_0
     try clear hcz20_1
     try clear hfz10_0
     try clear hfz10_1
     try clear hfz12_0
     try clear hfz12_1
     try clear hfz12_2
     try clear hfz13_0
     try clear hfz13_1
     try clear hfz13_2
     try clear hfz16_0
     try clear hfz16_1
     try clear hfz20_0
     try clear hfz20_1
     try clear p2
     obtain ⟨x2000_2, x2001_2, x2002_2, x230000_2, x235001_2, u235001, HA, HK2, HO_235001, BK229, BK234, HI1, HK, HB⟩ := hrel
     cases gk with
     | zero => exact absurd HA.out (by simp [impl_GetBag.l0])
     | succ k2 =>
      have H := HA.out
      clear HA
      simp only [impl_GetBag.l0] at H
      have HC21 := am_ H
      clear H
      go_upto_region 5 with (fail)
      go_cut [37] (fun v37 wc => ∃ (kq : Nat) (x37_20 : Bool), v37 = .bool x37_20 ∧ Aside0 (impl_GetBag.j2 kq a0 x37_20 x2000_2 x2001_2 x2002_2 t230 x235001_2 = some (r1, r2, r3, r4, r5, r6)) ∧ Aside0 (kq ≤ k2) ∧ Aside0 (Kd.S k47 47 wc w.heap.size (fun _ => True) u235001 x235001_2) ∧ Aside0 (wc.heap[gb229]? = some (.cells #[.int .i64 x230000_2, (.slice none 0 0)] 26 (0, 0))) ∧ Aside0 (wc.heap[gb234]? = some (.cells #[.int .i64 t230, u235001] 26 (0, 0))) ∧ Aside0 (IsS58 w wc g x2000_2 x2001_2 x2002_2) ∧ Aside0 (KeepBut w wc g none) ∧ Aside0 (Below w.heap.size w wc))
      case first =>
       have H := HC21.out
       clear HC21
       by_cases c22 : x2002_2 = true
       ·subst c22
        rw [if_pos rfl] at H
        have H' := am_ H
        clear H
        obtain ⟨HGz23, hgz23⟩ := HI1.out
        have hcz23_0 := cellS58_0 HGz23
        have hcz23_1 := cellS58_1 HGz23
        have hcz23_2 := cellS58_2 HGz23
        have hfz23_0 := blk_frozen HGz23 0
        have hfz23_1 := blk_frozen HGz23 1
        have hfz23_2 := blk_frozen HGz23 2
        clear HGz23 hgz23
        go_wp2
        go_meet
        case rel => exact ⟨_, (false), rs_, H', ⟨by have := HJ3.out; have := HK2.out; first | omega | exact Nat.le_refl _⟩, ⟨by (with_reducible repeat (first | apply Kd.S_alloc | apply Kd.S_drewN | apply Kd.S_drew)); exact HO_235001.out⟩, ⟨bkx_ BK229.out⟩, ⟨bkx_ BK234.out⟩, ⟨ab22_⟩, ⟨ab23_⟩, ⟨ab24_⟩⟩
       ·replace c22 := Bool.eq_false_iff.mpr c22
        subst c22
        rw [if_neg (show ¬ (false = true) by decide)] at H
        have H' := am_ H
        clear H
        obtain ⟨HGz24, hgz24⟩ := HI1.out
        have hcz24_0 := cellS58_0 HGz24
        have hcz24_1 := cellS58_1 HGz24
        have hcz24_2 := cellS58_2 HGz24
        have hfz24_0 := blk_frozen HGz24 0
        have hfz24_1 := blk_frozen HGz24 1
        have hfz24_2 := blk_frozen HGz24 2
        clear HGz24 hgz24
        go_wp2
        go_meet
        case rel => exact ⟨_, (decide (x2001_2 < (a0.size : Int))), rs_, H', ⟨by have := HJ3.out; have := HK2.out; first | omega | exact Nat.le_refl _⟩, ⟨by (with_reducible repeat (first | apply Kd.S_alloc | apply Kd.S_drewN | apply Kd.S_drew)); exact HO_235001.out⟩, ⟨bkx_ BK229.out⟩, ⟨bkx_ BK234.out⟩, ⟨ab22_⟩, ⟨ab23_⟩, ⟨ab24_⟩⟩
      case rest =>
       clear HC21
       try clear c1
       try clear c2
       try clear p2
       try clear c8
       try clear c9
       try clear c11
       try clear c14
       try clear c15
       try clear c17
       try clear c18
       try clear c19
       try clear c22
       try clear hcz10_0
       try clear hcz10_1
       try clear hcz12_0
       try clear hcz12_1
       try clear hcz12_2
       try clear hcz13_0
       try clear hcz13_1
       try clear hcz13_2
       try clear hcz16_0
       try clear hcz16_1
       try clear hcz20_0
       try clear hcz20_1
       try clear hcz23_0
       try clear hcz23_1
       try clear hcz23_2
       try clear hcz24_0
       try clear hcz24_1
       try clear hcz24_2
       try clear hfz10_0
       try clear hfz10_1
       try clear hfz12_0
       try clear hfz12_1
       try clear hfz12_2
       try clear hfz13_0
       try clear hfz13_1
       try clear hfz13_2
       try clear hfz16_0
       try clear hfz16_1
       try clear hfz20_0
       try clear hfz20_1
       try clear hfz23_0
       try clear hfz23_1
       try clear hfz23_2
       try clear hfz24_0
       try clear hfz24_1
       try clear hfz24_2
       try clear p2
       obtain ⟨kq, x37_20, rfl, HA, HJ20, HO_235001, BK229, BK234, HI1, HK, HB⟩ := hcut
       cases kq with
       | zero => exact absurd HA.out (by simp [impl_GetBag.j2])
       | succ kj20 =>
        have H := HA.out
        clear HA
        simp only [impl_GetBag.j2] at H
        by_cases c25 : x37_20 = true
        ·subst c25
         rw [if_pos rfl] at H
         replace H := bsi_ H
         obtain ⟨⟨t236, t237, t238, t239, t240, t241⟩, A260, H⟩ := H
         try dsimp only at H
         have A26 := am_ A260
         clear A260
         by_cases c27 : t236 = 1
         ·rw [if_pos c27] at H
          have c27b0 : (t236 == 1) = true := beq_iff_eq.mpr c27
          have c27b1 : (t236 != 1) = false := bne_eq_false_iff_eq.mpr c27
          clear c27
          have H' := am_ H
          clear H
          go_wp2_with (first | ((with_reducible refine gate_callee (f := 26) rfl ?_); refine gsL_ (some 39) Tryz.func26 #[.pointer (some ⟨g, 0, none⟩)] ?_; (with_reducible refine (impl_reader_value.calls g x2000_2 x2001_2 x2002_2 t236 t237 t238 t239 t240 t241 w _ ?side1 ?side2 A26.out).mono ?_); (case side1 => exact ab22_); (case side2 => exact ab24_); rintro e w28 ⟨rfl, hi, hb, hk⟩; refine ⟨_, rfl, ?_⟩; have n0_ := am_ (Kd.S_mono (Kd.S_keep (IsS58.apartS (show IsS58 w _ g x2000_2 x2001_2 x2002_2 from ab22_) (sk_ HO_235001.out) (by decide)) hk (fun _ h => h.2)) (fun _ h => h.1)); have n1_ := am_ (KeepBut.blk hk (g' := gb229) (o := .cells #[.int .i64 x230000_2, .slice none 0 0] 26 (0, 0)) (bkx_ BK229.out) NB229_1.out (by simp)); have n2_ := am_ (KeepBut.blk hk (g' := gb234) (o := .cells #[.int .i64 t230, u235001] 26 (0, 0)) (bkx_ BK234.out) NB234_1.out (by simp)); have n3_ := am_ (KeepBut.trans ab23_ hk (.inl rfl)); have n4_ := am_ (hb); have n5_ := am_ (hi); clear HO_235001; clear BK229; clear BK234; clear HK; clear HB; clear HI1; have HO_235001 := n0_; have BK229 := n1_; have BK234 := n2_; have HK := n3_; have HB := n4_; have HI1 := n5_; clear n0_ n1_ n2_ n3_ n4_ n5_; (try clear hb); (try clear hb2); (try clear hk); (try clear hi)) | ((with_reducible refine gate_dst (N := 6) rfl ?_); (try (refine gate_guard (by rfl) ?_; dsimp only)); refine bx_ 6 #[.int .i64 0, .int .i64 0, .string (⟨#[]⟩ : ByteArray)] 50 ?_; intro gb242 hg w29 hbox hb; have n0_ := am_ (Kd.S_below (Kd.S_elderB (sk_ HO_235001.out) gb242 (Nat.le_of_eq hg.symm)) hb); have n1_ := bkb_ BK229 hb; have n2_ := bkb_ BK234 hb; have n3_ := am_ (IsS58.below ab22_ hb); have n4_ := am_ (KeepBut.trans ab23_ (KeepBut.of_below hb g none) (.inl rfl)); have n5_ := am_ (below_step ab24_ hb); have n6_ := am_ (hbox); have n7_ := am_ ((by rw [hg]; exact (kz_ (g := g) ab23_) : w.heap.size ≤ gb242)); have n8_ := am_ ((Nat.le_trans HW0.out (by rw [hg]; exact (kz_ (g := g) ab23_) : w.heap.size ≤ gb242) : w.heap.size ≤ gb242)); have n9_ := nl_ hg BK229; have n10_ := ng_ hg BK229; have n11_ := nl_ hg BK234; have n12_ := ng_ hg BK234; have n13_ := am_ ((by rw [hg]; exact Nat.ne_of_lt (IsS58.lt (show IsS58 w _ g t239 t240 t241 from ab22_)) : g ≠ gb242)); have n14_ := am_ ((by rw [hg]; exact Nat.ne_of_gt (IsS58.lt (show IsS58 w _ g t239 t240 t241 from ab22_)) : gb242 ≠ g)); clear HO_235001; clear BK229; clear BK234; clear HI1; clear HK; clear HB; have HO_235001 := n0_; have BK229 := n1_; have BK234 := n2_; have HI1 := n3_; have HK := n4_; have HB := n5_; have BK242 := n6_; have GW242 := n7_; have GE242 := n8_; have NB229_242 := n9_; have NB242_229 := n10_; have NB234_242 := n11_; have NB242_234 := n12_; have NB1_242 := n13_; have NB242_1 := n14_; clear n0_ n1_ n2_ n3_ n4_ n5_ n6_ n7_ n8_ n9_ n10_ n11_ n12_ n13_ n14_; clear hb hbox hg; have hnb30 := NB242_229.out; have hnc30 := NB229_242.out; have hnb31 := NB242_234.out; have hnc31 := NB234_242.out; have hnb32 := NB242_1.out; have hnc32 := NB1_242.out; obtain ⟨hcz33_0, hcz33_1, hcz33_2, hfz33_0, hfz33_1, hfz33_2⟩ := b3_ BK242) | ((with_reducible refine gate_dst (N := 7) rfl ?_); (try (refine gate_guard (by rfl) ?_; dsimp only)); refine bx_ 7 #[.slice none 0 0, .int .i64 0] 47 ?_; intro gb243 hg w34 hbox hb; have n0_ := am_ (Kd.S_below (Kd.S_elderB (sk_ (Kd.S_mono (Kd.S_far (p := ⟨gb242, 2, none⟩) (Kd.S_far (p := ⟨gb242, 1, none⟩) (Kd.S_far (p := ⟨gb242, 0, none⟩) (Kd.S_mono HO_235001.out (fun k_ hk => (⟨hk, hk.2⟩ : _ ∧ k_ ≠ gb242))) (fun _ hk => hk.2) (.int .i64 t236)) (fun _ hk => hk.2) (.int .i64 t237)) (fun _ hk => hk.2) (.string t238)) (fun _ h_ => h_.1))) gb243 (Nat.le_of_eq hg.symm)) hb); have n1_ := am_ (blk_below (g := gb229) (o := .cells #[.int .i64 x230000_2, .slice none 0 0] 26 (0, 0)) (bf3_ NB229_242 (bkx_ BK229.out)) hb); have n2_ := am_ (blk_below (g := gb234) (o := .cells #[.int .i64 t230, u235001] 26 (0, 0)) (bf3_ NB234_242 (bkx_ BK234.out)) hb); have n3_ := am_ (IsS58.below (show IsS58 w (((w29.setCell ⟨gb242, 0, none⟩ (.int .i64 t236)).setCell ⟨gb242, 1, none⟩ (.int .i64 t237)).setCell ⟨gb242, 2, none⟩ (.string t238)) g t239 t240 t241 from ab25_) hb); have n4_ := am_ (blk_below (g := gb242) (o := .cells #[.int .i64 t236, .int .i64 t237, .string t238] 50 (0, 0)) (bp3_ (bkx_ BK242.out)) hb); have n5_ := am_ (KeepBut.trans ab26_ (KeepBut.of_below hb g none) (.inl rfl)); have n6_ := am_ (below_step ab27_ hb); have n7_ := am_ (hbox); have n8_ := am_ ((by rw [hg]; exact (kz_ (g := g) ab26_) : w.heap.size ≤ gb243)); have n9_ := am_ ((Nat.le_trans HW0.out (by rw [hg]; exact (kz_ (g := g) ab26_) : w.heap.size ≤ gb243) : w.heap.size ≤ gb243)); have n10_ := am_ ((by rw [hg]; exact Nat.ne_of_lt (blk_lt (g := gb229) (o := .cells #[.int .i64 x230000_2, .slice none 0 0] 26 (0, 0)) (bf3_ NB229_242 (bkx_ BK229.out))) : gb229 ≠ gb243)); have n11_ := am_ ((by rw [hg]; exact Nat.ne_of_gt (blk_lt (g := gb229) (o := .cells #[.int .i64 x230000_2, .slice none 0 0] 26 (0, 0)) (bf3_ NB229_242 (bkx_ BK229.out))) : gb243 ≠ gb229)); have n12_ := am_ ((by rw [hg]; exact Nat.ne_of_lt (blk_lt (g := gb234) (o := .cells #[.int .i64 t230, u235001] 26 (0, 0)) (bf3_ NB234_242 (bkx_ BK234.out))) : gb234 ≠ gb243)); have n13_ := am_ ((by rw [hg]; exact Nat.ne_of_gt (blk_lt (g := gb234) (o := .cells #[.int .i64 t230, u235001] 26 (0, 0)) (bf3_ NB234_242 (bkx_ BK234.out))) : gb243 ≠ gb234)); have n14_ := am_ ((by rw [hg]; exact Nat.ne_of_lt (blk_lt (g := gb242) (o := .cells #[.int .i64 t236, .int .i64 t237, .string t238] 50 (0, 0)) (bp3_ (bkx_ BK242.out))) : gb242 ≠ gb243)); have n15_ := am_ ((by rw [hg]; exact Nat.ne_of_gt (blk_lt (g := gb242) (o := .cells #[.int .i64 t236, .int .i64 t237, .string t238] 50 (0, 0)) (bp3_ (bkx_ BK242.out))) : gb243 ≠ gb242)); have n16_ := am_ ((by rw [hg]; exact Nat.ne_of_lt (IsS58.lt (show IsS58 w _ g t239 t240 t241 from ab25_)) : g ≠ gb243)); have n17_ := am_ ((by rw [hg]; exact Nat.ne_of_gt (IsS58.lt (show IsS58 w _ g t239 t240 t241 from ab25_)) : gb243 ≠ g)); clear HO_235001; clear BK229; clear BK234; clear HI1; clear BK242; clear HK; clear HB; have HO_235001 := n0_; have BK229 := n1_; have BK234 := n2_; have HI1 := n3_; have BK242 := n4_; have HK := n5_; have HB := n6_; have BK243 := n7_; have GW243 := n8_; have GE243 := n9_; have NB229_243 := n10_; have NB243_229 := n11_; have NB234_243 := n12_; have NB243_234 := n13_; have NB242_243 := n14_; have NB243_242 := n15_; have NB1_243 := n16_; have NB243_1 := n17_; clear n0_ n1_ n2_ n3_ n4_ n5_ n6_ n7_ n8_ n9_ n10_ n11_ n12_ n13_ n14_ n15_ n16_ n17_; clear hb hbox hg; have hnb35 := NB243_229.out; have hnc35 := NB229_243.out; have hnb36 := NB243_234.out; have hnc36 := NB234_243.out; have hnb37 := NB243_242.out; have hnc37 := NB242_243.out; have hnb38 := NB243_1.out; have hnc38 := NB1_243.out; obtain ⟨hcz39_0, hcz39_1, hfz39_0, hfz39_1⟩ := b2_ BK243; have hnb40 := NB234_229.out; have hnc40 := NB229_234.out; have hnb41 := NB234_1.out; have hnc41 := NB1_234.out; obtain ⟨hcz42_0, hcz42_1, hfz42_0, hfz42_1⟩ := b2_ BK234))
          go_loopg [49] kj20 (fun kq v49 w' => ∃ (x49_4 : Int) (x2000_4 : ByteArray) (x2001_4 : Int) (x2002_4 : Bool) (x244000_4 : List (S50)) (u244000 : Value), v49 = .int .i64 x49_4 ∧ Aside0 (impl_GetBag.l1 kq a0 t230 x49_4 x2000_4 x2001_4 x2002_4 t230 x235001_2 x244000_4 t237 = some (r1, r2, r3, r4, r5, r6)) ∧ Aside0 (kq ≤ kj20) ∧ Aside0 (Kd.S k47 47 w' w.heap.size (fun k_ => some k_ ≠ (u244000 : Value).ownBlock ∧ k_ ≠ gb242 ∧ k_ ≠ gb243) u235001 x235001_2) ∧ Aside0 (Kd.R k50 50 w' w.heap.size (fun k_ => k_ ≠ gb242) u244000 x244000_4) ∧ Aside0 (w'.heap[gb229]? = some (.cells #[.int .i64 x230000_2, (.slice none 0 0)] 26 (0, 0))) ∧ Aside0 (w'.heap[gb234]? = some (.cells #[.int .i64 t230, u235001] 26 (0, 0))) ∧ Aside0 (w'.heap[gb242]? = some (.cells #[.int .i64 t236, .int .i64 t237, .string t238] 50 (0, 0))) ∧ Aside0 (w'.heap[gb243]? = some (.cells #[u244000, .int .i64 t237] 47 (0, 0))) ∧ Aside0 (IsS58 w w' g x2000_4 x2001_4 x2002_4) ∧ Aside0 (KeepBut w w' g none) ∧ Aside0 (Below w.heap.size w w'))
          case atStart => exact ⟨(0), (t239), (t240), (t241), (([] : List (S50))), (.slice none 0 0), rs_, H', ⟨Nat.le_refl _⟩, ⟨by (with_reducible repeat (first | apply Kd.S_alloc | apply Kd.S_drewN | apply Kd.S_drew)); exact Kd.S_mono (Kd.S_far (p := ⟨gb243, 1, none⟩) (Kd.S_far (p := ⟨gb243, 0, none⟩) (Kd.S_mono HO_235001.out (fun k_ hk => (⟨hk, hk.2⟩ : _ ∧ k_ ≠ gb243))) (fun _ hk => hk.2) (.slice none 0 0)) (fun _ hk => hk.2) (.int .i64 t237)) (fun _ hk => ⟨(by simp [Value.ownBlock]), ⟨hk.1.1.2, hk.1.2⟩⟩)⟩, ⟨by first | exact Kd.R_nil _ _ _ _ _ | exact Kd.N_nil _ _ _ _ _ | exact Kd.V_nil _ _ _ _ _ | exact Kd.Q_nil _ _ _ _ _ | exact Kd.S_nil _ _ _ _ _⟩, ⟨(bf2_ NB229_243 (bkx_ BK229.out))⟩, ⟨(bf2_ NB234_243 (bkx_ BK234.out))⟩, ⟨(bf2_ NB242_243 (bkx_ BK242.out))⟩, ⟨(bp2_ (bkx_ BK243.out))⟩, ⟨ab28_⟩, ⟨ab29_⟩, ⟨ab30_⟩⟩
          case round =>
           clear H'
           try clear c1
           try clear c2
           try clear p2
           try clear c3
           try clear c4
           try clear c8
           try clear c9
           try clear c11
           try clear c14
           try clear c15
           try clear c17
           try clear c18
           try clear c19
           try clear c22
           try clear c25
           try clear c27
           try clear c27b0
           try clear c27b1
           try clear c28
           try clear c30
           try clear c31
           try clear c32
           try clear c35
           try clear c36
           try clear c37
           try clear c38
           try clear c40
           try clear c41
           try clear hcz10_0
           try clear hcz10_1
           try clear hcz12_0
           try clear hcz12_1
           try clear hcz12_2
           try clear hcz13_0
           try clear hcz13_1
           try clear hcz13_2
           try clear hcz16_0
           try clear hcz16_1
           try clear hcz20_0
           try clear hcz20_1
           try clear hcz23_0
           try clear hcz23_1
           try clear hcz23_2
           try clear hcz24_0
           try clear hcz24_1
           try clear hcz24_2
           try clear hcz33_0
           try clear hcz33_1
           try clear hcz33_2
           try clear hcz39_0
           try clear hcz39_1
           try clear hcz42_0
           try clear hcz42_1
           try clear hfz10_0
           try clear hfz10_1
           try clear hfz12_0
           try clear hfz12_1
           try clear hfz12_2
           try clear hfz13_0
           try clear hfz13_1
           try clear hfz13_2
           try clear hfz16_0
           try clear hfz16_1
           try clear hfz20_0
           try clear hfz20_1
           try clear hfz23_0
           try clear hfz23_1
           try clear hfz23_2
           try clear hfz24_0
           try clear hfz24_1
           try clear hfz24_2
           try clear hfz33_0
           try clear hfz33_1
           try clear hfz33_2
           try clear hfz39_0
           try clear hfz39_1
           try clear hfz42_0
           try clear hfz42_1
           try clear p2
           obtain ⟨x49_4, x2000_4, x2001_4, x2002_4, x244000_4, u244000, rfl, HA, HK4, HO_235001, HO_244000, BK229, BK234, BK242, BK243, HI1, HK, HB⟩ := hrel
           cases gk with
           | zero => exact absurd HA.out (by simp [impl_GetBag.l1])
           | succ k4 =>
            have H := HA.out
            clear HA
            simp only [impl_GetBag.l1] at H
            by_cases c43 : x49_4 < t230
            ·rw [if_pos c43] at H
             have c43b0 := decide_eq_true c43
             clear c43
             replace H := bsi_ H
             obtain ⟨⟨t244, t245, t246, t247, t248, t249⟩, A440, H⟩ := H
             try dsimp only at H
             have A44 := am_ A440
             clear A440
             by_cases c45 : x244000_4.length < 4398046511104
             ·rw [if_pos c45] at H
              have LMc45 := am_ c45
              clear c45
              obtain ⟨y250, hy250⟩ : ∃ y_ : List (S50), y_ = (x244000_4 ++ [(⟨t244, t245, t246⟩ : S50)]) := ⟨_, rfl⟩
              replace H : (impl_GetBag.l1 k4 a0 t230 (wrap64 (x49_4 + 1)) t247 t248 t249 t230 x235001_2 y250 t237) = some (r1, r2, r3, r4, r5, r6) := by first | (rw [hy250]; with_reducible exact H) | (have H2_ := (Option.bind_some _ _).symm.trans H; rw [hy250]; with_reducible exact H2_) | (have H2_ := (Option.bind_some _ _).symm.trans H; with_reducible exact H2_) | with_reducible exact H | (rw [hy250]; exact H) | exact H
              have Ny250 := am_ hy250
              clear hy250
              have H' := am_ H
              clear H
              try go_wp2
              replace HO_235001 := am_ (Kd.S_drew HO_235001.out)
              replace HO_244000 := am_ (Kd.R_drew HO_244000.out)
              replace BK229 := am_ (blk_drew BK229.out)
              replace BK234 := am_ (blk_drew BK234.out)
              replace BK242 := am_ (blk_drew BK242.out)
              replace BK243 := am_ (blk_drew BK243.out)
              replace HI1 := am_ (IsS58.drew HI1.out)
              replace HK := am_ (keep_drew HK.out)
              replace HB := am_ (below_drew1 HB.out)
              refine start_ (n := 8) (S := fun w' => w'.cell? ⟨gb243, 0, none⟩ = some (u244000) ∧ w'.cell? ⟨gb243, 1, none⟩ = some (.int .i64 t237)) (ds := [7]) (tf 0 8) (by kernel_rfl) rfl rfl ⟨bc_ BK243 0, bc_ BK243 1⟩ (fun hHeld => ?_); refine with_tabW impl_GetBag.tab12 impl_GetBag.bits12 (fun HT_ HW_ => ?_)
              generalize wr.drew = w46 at HO_235001 HO_244000 BK229 BK234 BK242 BK243 HI1 HK HB hHeld ⊢
              refine pl_ ?_
              refine plx_ 2 #[true, false, true, false, false, false, false, false] ?_
              refine tlx_ 1 (tf 3 5) ?_
              refine on1_ (i := 3) (N := some 54) (tf 4 4) (h := fun K hK => ?_)
              refine gs_ Tryz.func26 #[.pointer (some ⟨g, 0, none⟩)] ?_
              with_reducible refine (impl_reader_value.calls g x2000_4 x2001_4 x2002_4 t244 t245 t246 t247 t248 t249 w _ ?side1 ?side2 A44.out).mono ?_
              (case side1 => exact ab28_)
              (case side2 => exact ab30_)
              rintro e w47 ⟨rfl, hi, hb, hk⟩
              refine ⟨_, rfl, ?_⟩
              have n0_ := am_ (Kd.S_mono (Kd.S_keep (IsS58.apartS (show IsS58 w _ g x2000_4 x2001_4 x2002_4 from ab28_) (sk_ HO_235001.out) (by decide)) hk (fun _ h => h.2)) (fun _ h => h.1))
              have n1_ := am_ (Kd.R_mono (Kd.R_keep (IsS58.apart (show IsS58 w _ g x2000_4 x2001_4 x2002_4 from ab28_) (rk_ HO_244000.out) (by decide)) hk (fun _ h => h.2)) (fun _ h => h.1))
              have n2_ := am_ (KeepBut.blk hk (g' := gb229) (o := .cells #[.int .i64 x230000_2, .slice none 0 0] 26 (0, 0)) (bkx_ BK229.out) NB229_1.out (by simp))
              have n3_ := am_ (KeepBut.blk hk (g' := gb234) (o := .cells #[.int .i64 t230, u235001] 26 (0, 0)) (bkx_ BK234.out) NB234_1.out (by simp))
              have n4_ := am_ (KeepBut.blk hk (g' := gb242) (o := .cells #[.int .i64 t236, .int .i64 t237, .string t238] 50 (0, 0)) (bkx_ BK242.out) NB242_1.out (by simp))
              have n5_ := am_ (KeepBut.blk hk (g' := gb243) (o := .cells #[u244000, .int .i64 t237] 47 (0, 0)) (bkx_ BK243.out) NB243_1.out (by simp))
              have n6_ := am_ (KeepBut.trans ab29_ hk (.inl rfl))
              have n7_ := am_ (hb)
              have n8_ := am_ (hi)
              clear HO_235001
              clear HO_244000
              clear BK229
              clear BK234
              clear BK242
              clear BK243
              clear HK
              clear HB
              clear HI1
              have HO_235001 := n0_
              have HO_244000 := n1_
              have BK229 := n2_
              have BK234 := n3_
              have BK242 := n4_
              have BK243 := n5_
              have HK := n6_
              have HB := n7_
              have HI1 := n8_
              clear n0_ n1_ n2_ n3_ n4_ n5_ n6_ n7_ n8_
              (try clear hb)
              (try clear hb2)
              (try clear hk)
              (try clear hi)
              refine hK.out _ _ ⟨bc_ BK243 0, bc_ BK243 1⟩ (fun hHeld => ?_)
              clear hK K
              refine nm_ ?_
              refine on1_ (i := 4) (N := some 55) (tf 5 3) (h := fun K hK => ?_)
              refine value_ (w1 := ?_) (v := ?_) (by rfl) rfl ?_ ?_
              rotate_left 2
              ·go_simp
               constructor
               ·rfl
               ·rfl
              refine hK.out _ _ ⟨(blk_cell (blk_alloc BK243.out _) 0).trans rfl, (blk_cell (blk_alloc BK243.out _) 1).trans rfl⟩ (fun hHeld => ?_)
              clear hK K
              refine nm_ ?_
              refine on1_ (i := 5) (N := some 56) (tf 6 2) (h := fun K hK => ?_)
              refine Kd.R_append_step k50 w.heap.size (by rfl) (.tmp 52) (.tmp 55) 45 50 (.agg #[(.int .i64 0), (.int .i64 0), (.string ⟨#[]⟩)]) 32 rfl Tryz.underlying45 info50 rfl (by decide) (by omega) u244000 x244000_4 (⟨t244, t245, t246⟩ : S50) [.int .i64 t244, .int .i64 t245, .string t246] (fun k_ => k_ ≠ gb242) (fun _ => False) rfl rfl ?aP (fun _ hk => hk.elim) ?aF ?aO (Below.refl _ _) ?aS ?aL ?_
              (case aP => exact k50_mkM _ _ _ (⟨t244, t245, t246⟩ : S50))
              (case aF => exact (fun k_ hk => Kd.freshB (g := gb242) (o := .cells #[.int .i64 t236, .int .i64 t237, .string t238] 50 (0, 0)) (bkx_ BK242.out) k_ hk))
              (case aO => exact (rk_ HO_244000.out))
              (case aS => exact (kz_ (g := g) ab29_))
              (case aL => have := LMc45.out; omega)
              intro v251 w48 ho hb hg hat
              rw [← Ny250.out] at ho
              have n0_ := am_ (Kd.S_after (ok := (fun k_ => k_ ≠ gb242 ∧ k_ ≠ gb243)) (sk_ (Kd.S_mono HO_235001.out (fun _ hk => ⟨⟨hk.2.1, hk.2.2⟩, hk.1⟩))) hg hat)
              have n1_ := am_ (blk_grown (g := gb229) (o := .cells #[.int .i64 x230000_2, .slice none 0 0] 26 (0, 0)) (bkx_ BK229.out) hg (Kd.R_ne HO_244000.out BK229.out (by decide)))
              have n2_ := am_ (blk_grown (g := gb234) (o := .cells #[.int .i64 t230, u235001] 26 (0, 0)) (bkx_ BK234.out) hg (Kd.R_ne HO_244000.out BK234.out (by decide)))
              have n3_ := am_ (blk_grown (g := gb242) (o := .cells #[.int .i64 t236, .int .i64 t237, .string t238] 50 (0, 0)) (bkx_ BK242.out) hg (Kd.R_away HO_244000.out (fun _ hk => hk)))
              have n4_ := am_ (blk_grown (g := gb243) (o := .cells #[u244000, .int .i64 t237] 47 (0, 0)) (bkx_ BK243.out) hg (Kd.R_ne HO_244000.out BK243.out (by decide)))
              have n5_ := am_ (IsS58.grown ab28_ hg (IsS58.own_ne HI1.out HO_244000.out (by decide)))
              have n6_ := am_ (below_weaken ab30_ HL.out hb)
              have n7_ := am_ (KeepBut.trans ab29_ (KeepBut.of_grown hg g) (Kd.R_base2 HO_244000.out))
              have n8_ := am_ (ho)
              clear HO_235001
              clear BK229
              clear BK234
              clear BK242
              clear BK243
              clear HI1
              clear HB
              clear HK
              clear HO_244000
              have HO_235001 := n0_
              have BK229 := n1_
              have BK234 := n2_
              have BK242 := n3_
              have BK243 := n4_
              have HI1 := n5_
              have HB := n6_
              have HK := n7_
              have HO252 := n8_
              clear n0_ n1_ n2_ n3_ n4_ n5_ n6_ n7_ n8_
              clear ho hb hg hat
              obtain ⟨Ao49, co49, eo49⟩ := Kd.R_slice HO252.out
              (first | subst eo49 | (injection eo49 with f1_ f2_ f3_; have f4_ := f1_.symm; have f5_ := f3_.symm; clear f1_ f2_ f3_; subst f4_; subst f5_))
              refine hK.out _ _ ⟨bc_ BK243 0, bc_ BK243 1⟩ (fun hHeld => ?_)
              clear hK K
              refine nm_ ?_
              refine plx_ 6 (tf 7 1) ?_
              refine last_ (i := 7) (N := none) (tf 8 0) rfl rfl (one_of HT_.out (by kernel_rfl)) (by decide) (fun K hK => ?_)
              have hs50 : w48.cell? ⟨gb243, 0, none⟩ = some (u244000) := bc_ BK243 0
              have hfs50 := blk_frozen BK243.out 0
              have hns50_0 := NB229_243.out
              have hns50_1 := NB234_243.out
              have hns50_2 := NB242_243.out
              have hms50_0 := NB243_229.out
              have hms50_1 := NB243_234.out
              have hms50_2 := NB243_242.out
              refine skip_ (w1 := ?_) (by rfl) rfl ?_ ?_
              rotate_left
              ·go_simp
               rfl
              refine hK.out _ _ ?_
              clear hK K
              refine done_ (done_of HT_.out (by kernel_rfl)) ?_
              try go_wp2
              go_roundg k4
              case measure => have := HJ3.out; have := HK2.out; have := HJ20.out; have := HK4.out; omega
              case rel => exact ⟨(wrap64 (x49_4 + 1)), (t247), (t248), (t249), (y250), (.slice Ao49 y250.length co49), rs_, H', ⟨by have := HJ3.out; have := HK2.out; have := HJ20.out; have := HK4.out; omega⟩, ⟨by (with_reducible repeat (first | apply Kd.S_alloc | apply Kd.S_drewN | apply Kd.S_drew)); exact Kd.S_mono (Kd.S_far (p := ⟨gb243, 0, none⟩) (Kd.S_mono HO_235001.out (fun k_ hk => (⟨hk, hk.1.2⟩ : _ ∧ k_ ≠ gb243))) (fun _ hk => hk.2) (.slice Ao49 y250.length co49)) (fun _ hk => ⟨hk.1.2, ⟨hk.1.1.1, hk.1.1.2⟩⟩)⟩, ⟨by (with_reducible repeat (first | apply Kd.R_alloc | apply Kd.R_drewN | apply Kd.R_drew)); exact Kd.R_mono (Kd.R_far (p := ⟨gb243, 0, none⟩) (Kd.R_types HO252.out BK243.out (by decide)) (fun _ hk => hk.2) (.slice Ao49 y250.length co49)) (fun _ hk => hk.1)⟩, ⟨(bf1_ NB229_243 (bkx_ BK229.out))⟩, ⟨(bf1_ NB234_243 (bkx_ BK234.out))⟩, ⟨(bf1_ NB242_243 (bkx_ BK242.out))⟩, ⟨by (with_reducible repeat (first | refine blk_drewN ?_ _ | refine blk_drew ?_ | refine blk_alloc ?_ _)); refine blk_put (cs := #[u244000, .int .i64 t237]) ?_ 0 _ rfl; (with_reducible repeat (first | refine blk_drewN ?_ _ | refine blk_drew ?_ | refine blk_alloc ?_ _)); exact BK243.out⟩, ⟨ab28_⟩, ⟨ab29_⟩, ⟨ab30_⟩⟩
             ·rw [if_neg c45] at H
              exact nn_ H
            ·rw [if_neg c43] at H
             have c43b0 := decide_eq_false c43
             clear c43
             by_cases c51 : x235001_2.length < 4398046511104
             ·rw [if_pos c51] at H
              have LMc51 := am_ c51
              clear c51
              obtain ⟨y253, hy253⟩ : ∃ y_ : List (S47), y_ = (x235001_2 ++ [(⟨x244000_4, t237⟩ : S47)]) := ⟨_, rfl⟩
              replace H : (impl_GetBag.l0 k4 a0 x2000_4 x2001_4 x2002_4 t230 y253) = some (r1, r2, r3, r4, r5, r6) := by first | (rw [hy253]; with_reducible exact H) | (have H2_ := (Option.bind_some _ _).symm.trans H; rw [hy253]; with_reducible exact H2_) | (have H2_ := (Option.bind_some _ _).symm.trans H; with_reducible exact H2_) | with_reducible exact H | (rw [hy253]; exact H) | exact H
              have Ny253 := am_ hy253
              clear hy253
              have H' := am_ H
              clear H
              have hnb52 := NB234_229.out
              have hnc52 := NB229_234.out
              have hnb53 := NB234_242.out
              have hnc53 := NB242_234.out
              have hnb54 := NB234_243.out
              have hnc54 := NB243_234.out
              have hnb55 := NB234_1.out
              have hnc55 := NB1_234.out
              obtain ⟨hcz56_0, hcz56_1, hfz56_0, hfz56_1⟩ := b2_ BK234
              have hnb57 := NB243_229.out
              have hnc57 := NB229_243.out
              have hnb58 := NB243_242.out
              have hnc58 := NB242_243.out
              have hnb59 := NB243_1.out
              have hnc59 := NB1_243.out
              obtain ⟨hcz60_0, hcz60_1, hfz60_0, hfz60_1⟩ := b2_ BK243
              obtain ⟨Ao62, co62, eo62⟩ := Kd.R_slice HO_244000.out
              subst eo62
              go_wp2_with (first | ((with_reducible refine gate_builtin (b := .append) (xs := #[.tmp 60, .tmp 62]) rfl ?_); (try (refine gate_guard (by rfl) ?_; dsimp only)); at_builtin; refine Kd.S_append k47 w.heap.size rfl (.tmp 60) (.tmp 62) 24 47 (.agg #[(.slice none 0 0), (.int .i64 0)]) 32 rfl Tryz.underlying24 info47 rfl (by decide) (by omega) u235001 x235001_2 (⟨x244000_4, t237⟩ : S47) [.slice Ao62 x244000_4.length co62, .int .i64 t237] (fun k_ => k_ ≠ gb242 ∧ k_ ≠ gb243) (fun k_ => some k_ = (.slice Ao62 x244000_4.length co62 : Value).ownBlock) rfl rfl ?aP (fun k_ hk_ => ((Kd.R_mono (ok' := fun k_ => ((fun k_ => k_ ≠ gb242 ∧ k_ ≠ gb243)) k_ ∧ some k_ ≠ (u235001 : Value).ownBlock) (Kd.R_types (Kd.R_apart' (HO_244000.out) (Kd.S_typed HO_235001.out) (by decide)) BK243.out (by decide)) (fun k_ hk => ⟨⟨hk.1.1, hk.2⟩, hk.1.2⟩))).1 k_ hk_.symm) ?aF ?aO (Below.refl _ _) ?aS ?aL ?_; (case aP => exact k47_mkM _ _ _ (⟨x244000_4, t237⟩ : S47) (Kd.R_mono (Kd.R_tight rfl (Kd.R_mono (ok' := fun k_ => ((fun k_ => k_ ≠ gb242 ∧ k_ ≠ gb243)) k_ ∧ some k_ ≠ (u235001 : Value).ownBlock) (Kd.R_types (Kd.R_apart' (HO_244000.out) (Kd.S_typed HO_235001.out) (by decide)) BK243.out (by decide)) (fun k_ hk => ⟨⟨hk.1.1, hk.2⟩, hk.1.2⟩))) (fun _ h_ => h_))); (case aF => exact (fun k_ hk => ⟨Kd.freshB (g := gb242) (o := .cells #[.int .i64 t236, .int .i64 t237, .string t238] 50 (0, 0)) (bkx_ BK242.out) k_ hk, Kd.freshB (g := gb243) (o := .cells #[.slice Ao62 x244000_4.length co62, .int .i64 t237] 47 (0, 0)) (bkx_ BK243.out) k_ hk⟩)); (case aO => exact (sk_ (Kd.S_mono HO_235001.out (fun k_ hk => ⟨⟨hk.2.1, hk.2.2⟩, fun e_ => hk.1 e_⟩)))); (case aS => exact (kz_ (g := g) ab29_)); (case aL => have := LMc51.out; omega); intro v254 w61 ho hb hg hat; rw [← Ny253.out] at ho; have n0_ := am_ (blk_grown (g := gb229) (o := .cells #[.int .i64 x230000_2, .slice none 0 0] 26 (0, 0)) (bkx_ BK229.out) hg (Kd.S_ne HO_235001.out BK229.out (by decide))); have n1_ := am_ (blk_grown (g := gb234) (o := .cells #[.int .i64 t230, u235001] 26 (0, 0)) (bkx_ BK234.out) hg (Kd.S_ne HO_235001.out BK234.out (by decide))); have n2_ := am_ (blk_grown (g := gb242) (o := .cells #[.int .i64 t236, .int .i64 t237, .string t238] 50 (0, 0)) (bkx_ BK242.out) hg (Kd.S_ne HO_235001.out BK242.out (by decide))); have n3_ := am_ (blk_grown (g := gb243) (o := .cells #[.slice Ao62 x244000_4.length co62, .int .i64 t237] 47 (0, 0)) (bkx_ BK243.out) hg (Kd.S_away HO_235001.out (fun _ hk => hk.2.2))); have n4_ := am_ (IsS58.grown ab28_ hg (IsS58.own_neS HI1.out HO_235001.out (by decide))); have n5_ := am_ (below_weaken ab30_ HL.out hb); have n6_ := am_ (KeepBut.trans ab29_ (KeepBut.of_grown hg g) (Kd.S_base2 HO_235001.out)); have n7_ := am_ (ho); clear BK229; clear BK234; clear BK242; clear BK243; clear HI1; clear HB; clear HK; clear HO_235001; clear HO_244000; have BK229 := n0_; have BK234 := n1_; have BK242 := n2_; have BK243 := n3_; have HI1 := n4_; have HB := n5_; have HK := n6_; have HO255 := n7_; clear n0_ n1_ n2_ n3_ n4_ n5_ n6_ n7_; clear ho hb hg hat; obtain ⟨Ao63, co63, eo63⟩ := Kd.S_slice HO255.out; subst eo63; obtain ⟨hcz64_0, hcz64_1, hfz64_0, hfz64_1⟩ := b2_ BK234))
              go_roundg k4
              case measure => have := HJ3.out; have := HK2.out; have := HJ20.out; have := HK4.out; omega
              case rel => exact ⟨(x2000_4), (x2001_4), (x2002_4), (x230000_2), (y253), (.slice Ao63 y253.length co63), H', ⟨by have := HJ3.out; have := HK2.out; have := HJ20.out; have := HK4.out; omega⟩, ⟨by (with_reducible repeat (first | apply Kd.S_alloc | apply Kd.S_drewN | apply Kd.S_drew)); exact Kd.S_mono (Kd.S_far (p := ⟨gb234, 1, none⟩) (Kd.S_types HO255.out BK234.out (by decide)) (fun _ hk => hk.2) (.slice Ao63 y253.length co63)) (fun _ hk => trivial)⟩, ⟨(bf1_ NB229_234 (bkx_ BK229.out))⟩, ⟨by (with_reducible repeat (first | refine blk_drewN ?_ _ | refine blk_drew ?_ | refine blk_alloc ?_ _)); refine blk_put (cs := #[.int .i64 t230, u235001]) ?_ 1 _ rfl; (with_reducible repeat (first | refine blk_drewN ?_ _ | refine blk_drew ?_ | refine blk_alloc ?_ _)); exact BK234.out⟩, ⟨ab28_⟩, ⟨ab29_⟩, ⟨ab30_⟩⟩
             ·rw [if_neg c51] at H
              exact nn_ H
         ·rw [if_neg c27] at H
          have c27b0 : (t236 == 1) = false := beq_eq_false_iff_ne.mpr c27
          have c27b1 : (t236 != 1) = true := bne_iff_ne.mpr c27
          simp only [Option.some.injEq, Prod.mk.injEq] at H
          obtain ⟨rfl, rfl, rfl, rfl, rfl, rfl⟩ := H
          go_wp2_with (first | ((with_reducible refine gate_callee (f := 26) rfl ?_); refine gsL_ (some 39) Tryz.func26 #[.pointer (some ⟨g, 0, none⟩)] ?_; (with_reducible refine (impl_reader_value.calls g x2000_2 x2001_2 x2002_2 t236 t237 t238 t239 t240 t241 w _ ?side1 ?side2 A26.out).mono ?_); (case side1 => exact ab22_); (case side2 => exact ab24_); rintro e w65 ⟨rfl, hi, hb, hk⟩; refine ⟨_, rfl, ?_⟩; have n0_ := am_ (Kd.S_mono (Kd.S_keep (IsS58.apartS (show IsS58 w _ g x2000_2 x2001_2 x2002_2 from ab22_) (sk_ HO_235001.out) (by decide)) hk (fun _ h => h.2)) (fun _ h => h.1)); have n1_ := am_ (KeepBut.blk hk (g' := gb229) (o := .cells #[.int .i64 x230000_2, .slice none 0 0] 26 (0, 0)) (bkx_ BK229.out) NB229_1.out (by simp)); have n2_ := am_ (KeepBut.blk hk (g' := gb234) (o := .cells #[.int .i64 t230, u235001] 26 (0, 0)) (bkx_ BK234.out) NB234_1.out (by simp)); have n3_ := am_ (KeepBut.trans ab23_ hk (.inl rfl)); have n4_ := am_ (hb); have n5_ := am_ (hi); clear HO_235001; clear BK229; clear BK234; clear HK; clear HB; clear HI1; have HO_235001 := n0_; have BK229 := n1_; have BK234 := n2_; have HK := n3_; have HB := n4_; have HI1 := n5_; clear n0_ n1_ n2_ n3_ n4_ n5_; (try clear hb); (try clear hb2); (try clear hk); (try clear hi)) | ((with_reducible refine gate_dst (N := 6) rfl ?_); (try (refine gate_guard (by rfl) ?_; dsimp only)); refine bx_ 6 #[.int .i64 0, .int .i64 0, .string (⟨#[]⟩ : ByteArray)] 50 ?_; intro gb242 hg w66 hbox hb; have n0_ := am_ (Kd.S_below (Kd.S_elderB (sk_ HO_235001.out) gb242 (Nat.le_of_eq hg.symm)) hb); have n1_ := bkb_ BK229 hb; have n2_ := bkb_ BK234 hb; have n3_ := am_ (IsS58.below ab22_ hb); have n4_ := am_ (KeepBut.trans ab23_ (KeepBut.of_below hb g none) (.inl rfl)); have n5_ := am_ (below_step ab24_ hb); have n6_ := am_ (hbox); have n7_ := am_ ((by rw [hg]; exact (kz_ (g := g) ab23_) : w.heap.size ≤ gb242)); have n8_ := am_ ((Nat.le_trans HW0.out (by rw [hg]; exact (kz_ (g := g) ab23_) : w.heap.size ≤ gb242) : w.heap.size ≤ gb242)); have n9_ := nl_ hg BK229; have n10_ := ng_ hg BK229; have n11_ := nl_ hg BK234; have n12_ := ng_ hg BK234; have n13_ := am_ ((by rw [hg]; exact Nat.ne_of_lt (IsS58.lt (show IsS58 w _ g t239 t240 t241 from ab22_)) : g ≠ gb242)); have n14_ := am_ ((by rw [hg]; exact Nat.ne_of_gt (IsS58.lt (show IsS58 w _ g t239 t240 t241 from ab22_)) : gb242 ≠ g)); clear HO_235001; clear BK229; clear BK234; clear HI1; clear HK; clear HB; have HO_235001 := n0_; have BK229 := n1_; have BK234 := n2_; have HI1 := n3_; have HK := n4_; have HB := n5_; have BK242 := n6_; have GW242 := n7_; have GE242 := n8_; have NB229_242 := n9_; have NB242_229 := n10_; have NB234_242 := n11_; have NB242_234 := n12_; have NB1_242 := n13_; have NB242_1 := n14_; clear n0_ n1_ n2_ n3_ n4_ n5_ n6_ n7_ n8_ n9_ n10_ n11_ n12_ n13_ n14_; clear hb hbox hg; have hnb67 := NB242_229.out; have hnc67 := NB229_242.out; have hnb68 := NB242_234.out; have hnc68 := NB234_242.out; have hnb69 := NB242_1.out; have hnc69 := NB1_242.out; obtain ⟨hcz70_0, hcz70_1, hcz70_2, hfz70_0, hfz70_1, hfz70_2⟩ := b3_ BK242; have hnb71 := NB229_234.out; have hnc71 := NB234_229.out; have hnb72 := NB229_1.out; have hnc72 := NB1_229.out; obtain ⟨hcz73_0, hcz73_1, hfz73_0, hfz73_1⟩ := b2_ BK229))
          refine bodyPost_ret (results_ct rfl _ _ gb229 26 #[.int .i64 0, .slice none 0 0] (0, 0) _ rfl (by (with_reducible repeat (first | refine blk_drewN ?_ _ | refine blk_drew ?_ | refine blk_alloc ?_ _)); refine blk_put (cs := #[.int .i64 0, .slice none 0 0]) ?_ 1 _ rfl; (with_reducible repeat (first | refine blk_drewN ?_ _ | refine blk_drew ?_ | refine blk_alloc ?_ _)); refine blk_put (cs := #[.int .i64 x230000_2, .slice none 0 0]) ?_ 0 _ rfl; (with_reducible repeat (first | refine blk_drewN ?_ _ | refine blk_drew ?_ | refine blk_alloc ?_ _)); refine blk_far ?_ NB229_242.out _; (with_reducible repeat (first | refine blk_drewN ?_ _ | refine blk_drew ?_ | refine blk_alloc ?_ _)); refine blk_far ?_ NB229_242.out _; (with_reducible repeat (first | refine blk_drewN ?_ _ | refine blk_drew ?_ | refine blk_alloc ?_ _)); refine blk_far ?_ NB229_242.out _; (with_reducible repeat (first | refine blk_drewN ?_ _ | refine blk_drew ?_ | refine blk_alloc ?_ _)); exact BK229.out) Tryz.underlying26 rfl (by kernel_rfl)) rfl ?_
          exact ⟨g, _, rr_, by first | exact Kd.S_nil _ _ _ _ _ | exact Kd.N_nil _ _ _ _ _ | exact Kd.V_nil _ _ _ _ _ | exact Kd.Q_nil _ _ _ _ _ | exact Kd.R_nil _ _ _ _ _, ab25_, ab27_, ab26_⟩
        ·replace c25 := Bool.eq_false_iff.mpr c25
         subst c25
         rw [if_neg (show ¬ (false = true) by decide)] at H
         by_cases c74 : x2002_2 = true
         ·subst c74
          rw [if_pos rfl] at H
          simp only [Option.some.injEq, Prod.mk.injEq] at H
          obtain ⟨rfl, rfl, rfl, rfl, rfl, rfl⟩ := H
          obtain ⟨HGz75, hgz75⟩ := HI1.out
          have hcz75_0 := cellS58_0 HGz75
          have hcz75_1 := cellS58_1 HGz75
          have hcz75_2 := cellS58_2 HGz75
          have hfz75_0 := blk_frozen HGz75 0
          have hfz75_1 := blk_frozen HGz75 1
          have hfz75_2 := blk_frozen HGz75 2
          clear HGz75 hgz75
          have hnb76 := NB229_234.out
          have hnc76 := NB234_229.out
          have hnb77 := NB229_1.out
          have hnc77 := NB1_229.out
          obtain ⟨hcz78_0, hcz78_1, hfz78_0, hfz78_1⟩ := b2_ BK229
          go_wp2
          refine bodyPost_ret (results_ct rfl _ _ gb229 26 #[.int .i64 0, .slice none 0 0] (0, 0) _ rfl (bp2_ (bkx_ BK229.out)) Tryz.underlying26 rfl (by kernel_rfl)) rfl ?_
          exact ⟨g, _, rr_, by first | exact Kd.S_nil _ _ _ _ _ | exact Kd.N_nil _ _ _ _ _ | exact Kd.V_nil _ _ _ _ _ | exact Kd.Q_nil _ _ _ _ _ | exact Kd.R_nil _ _ _ _ _, ab22_, ab24_, ab23_⟩
         ·replace c74 := Bool.eq_false_iff.mpr c74
          subst c74
          rw [if_neg (show ¬ (false = true) by decide)] at H
          replace H := bsi_ H
          obtain ⟨t235, A790, H⟩ := H
          try dsimp only at H
          have A79 := am_ A790
          clear A790
          by_cases c80 : t235 = true
          ·subst c80
           rw [if_pos rfl] at H
           simp only [Option.some.injEq, Prod.mk.injEq] at H
           obtain ⟨rfl, rfl, rfl, rfl, rfl, rfl⟩ := H
           obtain ⟨HGz81, hgz81⟩ := HI1.out
           have hcz81_0 := cellS58_0 HGz81
           have hcz81_1 := cellS58_1 HGz81
           have hcz81_2 := cellS58_2 HGz81
           have hfz81_0 := blk_frozen HGz81 0
           have hfz81_1 := blk_frozen HGz81 1
           have hfz81_2 := blk_frozen HGz81 2
           clear HGz81 hgz81
           have hnb82 := NB234_229.out
           have hnc82 := NB229_234.out
           have hnb83 := NB234_1.out
           have hnc83 := NB1_234.out
           obtain ⟨hcz84_0, hcz84_1, hfz84_0, hfz84_1⟩ := b2_ BK234
           obtain ⟨Ao85, co85, eo85⟩ := Kd.S_slice HO_235001.out
           subst eo85
           go_wp2_with (first | (go_at_call 17; (with_reducible refine (impl_BagOk.calls kj20 t230 _ _ x235001_2 true _ ?side1 ?side2 A79.out).mono ?_); (case side1 => exact ck_ (Kd.S_reads' HO_235001.out).2.2); (case side2 => exact (Kd.S_reads' HO_235001.out).2.1); rintro e w86 ⟨rfl, hb⟩; have n0_ := am_ (Kd.S_below (sk_ HO_235001.out) hb); have n1_ := bkb_ BK229 hb; have n2_ := bkb_ BK234 hb; have n3_ := am_ (IsS58.below ab22_ hb); have n4_ := am_ (KeepBut.trans ab23_ (KeepBut.of_below hb g none) (.inl rfl)); have n5_ := am_ (below_step ab24_ hb); clear HO_235001; clear BK229; clear BK234; clear HI1; clear HK; clear HB; have HO_235001 := n0_; have BK229 := n1_; have BK234 := n2_; have HI1 := n3_; have HK := n4_; have HB := n5_; clear n0_ n1_ n2_ n3_ n4_ n5_; (try clear hb); (try clear hb2); (try clear hk); (try clear hi); obtain ⟨hcz87_0, hcz87_1, hfz87_0, hfz87_1⟩ := b2_ BK234; have hnb88 := NB229_1.out; have hnc88 := NB1_229.out; obtain ⟨hcz89_0, hcz89_1, hfz89_0, hfz89_1⟩ := b2_ BK229))
           refine bodyPost_ret (results_ct rfl _ _ gb229 26 #[.int .i64 t230, .slice Ao85 x235001_2.length co85] (0, 0) _ rfl (bp2_ (bkx_ BK229.out)) Tryz.underlying26 rfl (by kernel_rfl)) rfl ?_
           exact ⟨g, _, rr_, by (with_reducible repeat (first | apply Kd.S_alloc | apply Kd.S_drewN | apply Kd.S_drew)); exact Kd.S_mono (Kd.S_far (p := ⟨gb229, 1, none⟩) (Kd.S_far (p := ⟨gb229, 0, none⟩) (Kd.S_types HO_235001.out BK229.out (by decide)) (fun _ hk => hk.2) (.int .i64 t230)) (fun _ hk => hk.2) (.slice Ao85 x235001_2.length co85)) (fun _ hk => trivial), ab22_, ab24_, ab23_⟩
          ·replace c80 := Bool.eq_false_iff.mpr c80
           subst c80
           rw [if_neg (show ¬ (false = true) by decide)] at H
           simp only [Option.some.injEq, Prod.mk.injEq] at H
           obtain ⟨rfl, rfl, rfl, rfl, rfl, rfl⟩ := H
           obtain ⟨HGz90, hgz90⟩ := HI1.out
           have hcz90_0 := cellS58_0 HGz90
           have hcz90_1 := cellS58_1 HGz90
           have hcz90_2 := cellS58_2 HGz90
           have hfz90_0 := blk_frozen HGz90 0
           have hfz90_1 := blk_frozen HGz90 1
           have hfz90_2 := blk_frozen HGz90 2
           clear HGz90 hgz90
           have hnb91 := NB234_229.out
           have hnc91 := NB229_234.out
           have hnb92 := NB234_1.out
           have hnc92 := NB1_234.out
           obtain ⟨hcz93_0, hcz93_1, hfz93_0, hfz93_1⟩ := b2_ BK234
           obtain ⟨Ao94, co94, eo94⟩ := Kd.S_slice HO_235001.out
           subst eo94
           go_wp2_with (first | (go_at_call 17; (with_reducible refine (impl_BagOk.calls kj20 t230 _ _ x235001_2 false _ ?side1 ?side2 A79.out).mono ?_); (case side1 => exact ck_ (Kd.S_reads' HO_235001.out).2.2); (case side2 => exact (Kd.S_reads' HO_235001.out).2.1); rintro e w95 ⟨rfl, hb⟩; have n0_ := am_ (Kd.S_below (sk_ HO_235001.out) hb); have n1_ := bkb_ BK229 hb; have n2_ := bkb_ BK234 hb; have n3_ := am_ (IsS58.below ab22_ hb); have n4_ := am_ (KeepBut.trans ab23_ (KeepBut.of_below hb g none) (.inl rfl)); have n5_ := am_ (below_step ab24_ hb); clear HO_235001; clear BK229; clear BK234; clear HI1; clear HK; clear HB; have HO_235001 := n0_; have BK229 := n1_; have BK234 := n2_; have HI1 := n3_; have HK := n4_; have HB := n5_; clear n0_ n1_ n2_ n3_ n4_ n5_; (try clear hb); (try clear hb2); (try clear hk); (try clear hi); have hnb96 := NB229_1.out; have hnc96 := NB1_229.out; obtain ⟨hcz97_0, hcz97_1, hfz97_0, hfz97_1⟩ := b2_ BK229))
           refine bodyPost_ret (results_ct rfl _ _ gb229 26 #[.int .i64 0, .slice none 0 0] (0, 0) _ rfl (bp2_ (bkx_ BK229.out)) Tryz.underlying26 rfl (by kernel_rfl)) rfl ?_
           exact ⟨g, _, rr_, by first | exact Kd.S_nil _ _ _ _ _ | exact Kd.N_nil _ _ _ _ _ | exact Kd.V_nil _ _ _ _ _ | exact Kd.Q_nil _ _ _ _ _ | exact Kd.R_nil _ _ _ _ _, ab22_, ab24_, ab23_⟩

theorem impl_GetBag.calls (k : Nat) (a0 : ByteArray) (r1 : Int) (r2 : List (S47)) (r3 : Bool) (w : World) (h : impl_GetBag.f k a0 = some (r1, r2, r3)) :
  Calls Tryz.prog 8 #[.string a0] w fun e w' => ∃ v1_ : Value, e = .returned (.tuple #[.agg #[.int .i64 r1, v1_], .bool r3]) ∧ Kd.S k47 47 w' w.heap.size (fun _ => True) v1_ r2 ∧ Below w.heap.size w w' := by
 obtain ⟨⟨q1, q2, q3, q4, q5, q6⟩, hq, h⟩ := Option.bind_eq_some_iff.1 h
 obtain ⟨rfl, rfl, rfl⟩ : q1 = r1 ∧ q2 = r2 ∧ q3 = r3 := by simpa using h
 refine (impl_GetBag.calls_ k a0 q1 q2 q3 q4 q5 q6 w hq).mono ?_
 rintro e w' ⟨g, v, he, hs, _, hb, _⟩
 exact ⟨v, he, hs, hb⟩
/-! ### spec_GetValue: function 27 -/
mutual
def spec_GetValue.j0 : Nat → ByteArray → Int → Int → Bool → Int → Int → ByteArray → Option (Int × Int × ByteArray × Int)
 | 0, _, _, _, _, _, _, _ => none
 | k + 1, x0, x1, x7, x22, x387000, x387001, x387002 => if x22 = true then (spec_GetValue.l0 k x0 x1 0 1 x387000 x387001 x387002) else (if x387000 = 2 then (spec_GetValue.j2 k x0 x1 x7 (decide ((wrap64 ((x0.size : Int) - x1)) ≥ 2)) x387000 x387001 x387002) else (spec_GetValue.j2 k x0 x1 x7 false x387000 x387001 x387002))
def spec_GetValue.l0 : Nat → ByteArray → Int → Int → Int → Int → Int → ByteArray → Option (Int × Int × ByteArray × Int)
 | 0, _, _, _, _, _, _, _ => none
 | k + 1, x0, x1, x8, x9, x387000, x387001, x387002 => if x9 < 9 then (if 0 ≤ (wrap64 (x1 + x9)) then (if (wrap64 (x1 + x9)) < (x0.size : Int) then (spec_GetValue.l0 k x0 x1 (IntKind.u64.wrap ((IntKind.u64.wrap (256 * x8)) + (IntKind.u64.wrap (bt x0 (wrap64 (x1 + x9)))))) (wrap64 (x9 + 1)) x387000 x387001 x387002) else (none)) else (none)) else ((spec_ValueOk.f x387000 (wrap64 (x8)) x387002).bind fun t387 => (if t387 = true then (some (x387000, wrap64 (x8), x387002, wrap64 (x1 + 9))) else (some (0, 0, (⟨#[]⟩ : ByteArray), (-1)))))
def spec_GetValue.j2 : Nat → ByteArray → Int → Int → Bool → Int → Int → ByteArray → Option (Int × Int × ByteArray × Int)
 | 0, _, _, _, _, _, _, _ => none
 | k + 1, x0, x1, x7, x49, x387000, x387001, x387002 => if x49 = true then (if 0 ≤ (wrap64 (x1 + 1)) then (if (wrap64 (x1 + 1)) < (x0.size : Int) then ((spec_ValueOk.f x387000 (wrap64 (bt x0 (wrap64 (x1 + 1)))) x387002).bind fun t388 => (if t388 = true then (some (x387000, wrap64 (bt x0 (wrap64 (x1 + 1))), x387002, wrap64 (x1 + 2))) else (some (0, 0, (⟨#[]⟩ : ByteArray), (-1))))) else (none)) else (none)) else (if x387000 = 3 then (if (wrap64 ((x0.size : Int) - x1)) ≥ 2 then (if 0 ≤ (wrap64 (x1 + 1)) then (if (wrap64 (x1 + 1)) < (x0.size : Int) then (spec_GetValue.j3 k x0 x1 x7 (decide ((wrap64 ((wrap64 ((x0.size : Int) - x1)) - 2)) ≥ (wrap64 (bt x0 (wrap64 (x1 + 1)))))) x387000 x387001 x387002) else (none)) else (none)) else (spec_GetValue.j3 k x0 x1 x7 false x387000 x387001 x387002)) else (spec_GetValue.j3 k x0 x1 x7 false x387000 x387001 x387002))
def spec_GetValue.j3 : Nat → ByteArray → Int → Int → Bool → Int → Int → ByteArray → Option (Int × Int × ByteArray × Int)
 | 0, _, _, _, _, _, _, _ => none
 | k + 1, x0, x1, x7, x66, x387000, x387001, x387002 => if x66 = true then (if 0 ≤ (wrap64 (x1 + 1)) then (if (wrap64 (x1 + 1)) < (x0.size : Int) then (if 0 ≤ (wrap64 (x1 + 2)) then (if (wrap64 (x1 + 2)) ≤ (wrap64 (x1 + (wrap64 (2 + (wrap64 (bt x0 (wrap64 (x1 + 1)))))))) then (if (wrap64 (x1 + (wrap64 (2 + (wrap64 (bt x0 (wrap64 (x1 + 1)))))))) ≤ (x0.size : Int) then ((spec_ValueOk.f x387000 x387001 (x0.extract ((wrap64 (x1 + 2)) : Int).toNat ((wrap64 (x1 + (wrap64 (2 + (wrap64 (bt x0 (wrap64 (x1 + 1)))))))) : Int).toNat)).bind fun t389 => (if t389 = true then (some (x387000, x387001, x0.extract ((wrap64 (x1 + 2)) : Int).toNat ((wrap64 (x1 + (wrap64 (2 + (wrap64 (bt x0 (wrap64 (x1 + 1)))))))) : Int).toNat, wrap64 (x1 + (wrap64 (2 + (wrap64 (bt x0 (wrap64 (x1 + 1))))))))) else (some (0, 0, (⟨#[]⟩ : ByteArray), (-1))))) else (none)) else (none)) else (none)) else (none)) else (none)) else (if x387000 = 0 then ((spec_ValueOk.f x387000 x387001 x387002).bind fun t390 => (if t390 = true then (some (x387000, x387001, x387002, wrap64 (x1 + x7))) else (some (0, 0, (⟨#[]⟩ : ByteArray), (-1))))) else (some (0, 0, (⟨#[]⟩ : ByteArray), (-1))))
end
def spec_GetValue.f (k : Nat) (a0 : ByteArray) (a1 : Int) : Option (Int × Int × ByteArray × Int) := (spec_l01In.f a1 0 (wrap64 ((a0.size : Int) - 1))).bind fun t385 => (if t385 = true then (if 0 ≤ a1 then (if a1 < (a0.size : Int) then (if (wrap64 (bt a0 a1)) = 1 then (spec_GetValue.j0 k a0 a1 1 (decide ((wrap64 ((a0.size : Int) - a1)) ≥ 9)) (wrap64 (bt a0 a1)) 0 (⟨#[]⟩ : ByteArray)) else (spec_GetValue.j0 k a0 a1 1 false (wrap64 (bt a0 a1)) 0 (⟨#[]⟩ : ByteArray))) else (none)) else (none)) else (some (0, 0, (⟨#[]⟩ : ByteArray), (-1))))
theorem ab31_ {B : Nat} {w W : World} (h : Below B w W := by repeat (first | (with_reducible first | exact HB.out | apply below_alloc | apply pw_below_drewN | apply below_drew1 | refine below_set ?_ GE384.out | refine below_set ?_ GE386.out) | exact HB.out)) : Below B w W := h
set_option maxHeartbeats 8000000 in
set_option maxRecDepth 100000 in
theorem spec_GetValue.calls (k : Nat) (a0 : ByteArray) (a1 : Int) (r1 : Int) (r2 : Int) (r3 : ByteArray) (r4 : Int) (w : World) (h : spec_GetValue.f k a0 a1 = some (r1, r2, r3, r4)) :
  Calls Tryz.prog 27 #[.string a0, .int .i64 a1] w fun e w' => e = .returned (.tuple #[.agg #[.int .i64 r1, .int .i64 r2, .string r3], .int .i64 r4]) ∧ Below w.heap.size w w' := by
 have hu50 := Tryz.underlying50
 have HB := am_ (Below.refl w.heap.size w)
 have H : ((spec_l01In.f a1 0 (wrap64 ((a0.size : Int) - 1))).bind fun t385 => (if t385 = true then (if 0 ≤ a1 then (if a1 < (a0.size : Int) then (if (wrap64 (bt a0 a1)) = 1 then (spec_GetValue.j0 k a0 a1 1 (decide ((wrap64 ((a0.size : Int) - a1)) ≥ 9)) (wrap64 (bt a0 a1)) 0 (⟨#[]⟩ : ByteArray)) else (spec_GetValue.j0 k a0 a1 1 false (wrap64 (bt a0 a1)) 0 (⟨#[]⟩ : ByteArray))) else (none)) else (none)) else (some (0, 0, (⟨#[]⟩ : ByteArray), (-1))))) = some (r1, r2, r3, r4) := h
 clear h
 replace H := bsi_ H
 obtain ⟨t385, A30, H⟩ := H
 try dsimp only at H
 have A3 := am_ A30
 clear A30
 by_cases c4 : t385 = true
 ·subst c4
  rw [if_pos rfl] at H
  by_cases c5 : 0 ≤ a1
  ·rw [if_pos c5] at H
   have c5b0 := decide_eq_true c5; clear c5
   by_cases c6 : a1 < (a0.size : Int)
   ·rw [if_pos c6] at H
    have c6b0 := decide_eq_true c6; clear c6; have HC8 := am_ H; clear H
    go_enter Tryz.func27, Tryz.ntmps27
    go_upto_region 4 with (first | ((with_reducible refine gate_dst (N := 4) rfl ?_); (try (refine gate_guard (by rfl) ?_; dsimp only)); refine bx_ 4 #[.int .i64 0, .int .i64 0, .string (⟨#[]⟩ : ByteArray)] 50 ?_; intro gb384 hg w9 hbox hb; have BK384 := am_ (hbox); have GW384 := gw_ hg; have GE384 := gw_ hg; replace HB := bs_ hb; clear hb hbox hg) | ((with_reducible refine gate_callee (f := 37) rfl ?_); refine gsL_ (some 14) Tryz.func37 #[.int .i64 a1, .int .i64 0, .int .i64 (wrap64 ((a0.size : Int) - 1))] ?_; (with_reducible refine (spec_l01In.calls a1 0 (wrap64 ((a0.size : Int) - 1)) true _ A3.out).mono ?_); rintro e w' ⟨rfl, ⟨nd, rfl⟩⟩; refine ⟨_, rfl, ?_⟩; (try (rw [drewN_self w9]; generalize hq_ : World.drewN w9 _ = w9; have n0_ : Aside0 (w9.heap[gb384]? = some (.cells #[.int .i64 0, .int .i64 0, .string (⟨#[]⟩ : ByteArray)] 50 (0, 0))) := ⟨by rw [← hq_]; exact (bkx_ BK384.out)⟩; have n1_ : Aside0 (Below w.heap.size w w9) := ⟨by rw [← hq_]; exact bb_⟩; clear BK384 HB hq_; have BK384 := n0_; have HB := n1_; clear n0_ n1_)); have p7 : 0 ≤ (a1 : Int) := oa_; have q7 : a1 < (a0.size : Int) := oa_; have hx7 := bt_at a0 a1; replace p7 := eq_true p7; replace q7 := eq_true q7) | ((with_reducible refine gate_dst (N := 6) rfl ?_); (try (refine gate_guard (by rfl) ?_; dsimp only)); refine bx_ 6 #[.int .i64 0, .int .i64 0, .string (⟨#[]⟩ : ByteArray)] 50 ?_; intro gb386 hg w10 hbox hb; have BK386 := am_ (hbox); have GW386 := gw_ hg; have GE386 := gw_ hg; have NB384_386 := nl_ hg BK384; have NB386_384 := ng_ hg BK384; replace BK384 := bkb_ BK384 hb; replace HB := bs_ hb; clear hb hbox hg; have hnb11 := NB386_384.out; have hnc11 := NB384_386.out; obtain ⟨hcz12_0, hcz12_1, hcz12_2, hfz12_0, hfz12_1, hfz12_2⟩ := b3_ BK386))
    (try simp only [Act.put, List.setIfInBounds_toArray, List.set_cons_zero, List.set_cons_succ])
    go_cut [22] (fun v22 wc => ∃ (kq : Nat) (x22_7 : Bool), v22 = .bool x22_7 ∧ Aside0 (spec_GetValue.j0 kq a0 a1 1 x22_7 (wrap64 (bt a0 a1)) 0 (⟨#[]⟩ : ByteArray) = some (r1, r2, r3, r4)) ∧ Aside0 (kq ≤ k) ∧ Aside0 (wc.heap[gb384]? = some (.cells #[.int .i64 0, .int .i64 0, .string (⟨#[]⟩ : ByteArray)] 50 (0, 0))) ∧ Aside0 (wc.heap[gb386]? = some (.cells #[.int .i64 (wrap64 (bt a0 a1)), .int .i64 0, .string (⟨#[]⟩ : ByteArray)] 50 (0, 0))) ∧ Aside0 (Below w.heap.size w wc))
    case first =>
     have H := HC8.out; clear HC8
     by_cases c13 : (wrap64 (bt a0 a1)) = 1
     ·rw [if_pos c13] at H
      have c13b0 : ((wrap64 (bt a0 a1)) == 1) = true := beq_iff_eq.mpr c13; have c13b1 : ((wrap64 (bt a0 a1)) != 1) = false := bne_eq_false_iff_eq.mpr c13; clear c13; (first | rw [c13b0] | (simp only [i64_w, i32_w]; rw [c13b0]) | skip); have H' := am_ H; clear H; have hnb14 := NB386_384.out; have hnc14 := NB384_386.out; obtain ⟨hcz15_0, hcz15_1, hcz15_2, hfz15_0, hfz15_1, hfz15_2⟩ := b3_ BK386
      go_wp2
      go_meet
      case rel => exact ⟨_, (decide ((wrap64 ((a0.size : Int) - a1)) ≥ 9)), rs_, H', ⟨by first | omega | exact Nat.le_refl _⟩, ⟨(bf3_ NB384_386 (bkx_ BK384.out))⟩, ⟨(bp3_ (bkx_ BK386.out))⟩, ⟨bb_⟩⟩
     ·rw [if_neg c13] at H
      have c13b0 : ((wrap64 (bt a0 a1)) == 1) = false := beq_eq_false_iff_ne.mpr c13; have c13b1 : ((wrap64 (bt a0 a1)) != 1) = true := bne_iff_ne.mpr c13; (first | rw [c13b0] | (simp only [i64_w, i32_w]; rw [c13b0]) | skip); have H' := am_ H; clear H; have hnb16 := NB386_384.out; have hnc16 := NB384_386.out; obtain ⟨hcz17_0, hcz17_1, hcz17_2, hfz17_0, hfz17_1, hfz17_2⟩ := b3_ BK386
      go_wp2
      go_meet
      case rel => exact ⟨_, (false), rs_, H', ⟨by first | omega | exact Nat.le_refl _⟩, ⟨(bf3_ NB384_386 (bkx_ BK384.out))⟩, ⟨(bp3_ (bkx_ BK386.out))⟩, ⟨bb_⟩⟩
    case rest =>
     clear HC8; (try clear c1); (try clear c2); (try clear p2); (try clear c3); (try clear c4); (try clear c5); (try clear c5b0); (try clear c6); (try clear c6b0); (try clear p6); (try clear p7); (try clear q7); (try clear hx7); (try clear c11); (try clear c13); (try clear c13b0); (try clear c13b1); (try clear c14); (try clear c16); (try clear hcz12_0 hcz12_1 hcz12_2); (try clear hcz15_0 hcz15_1 hcz15_2); (try clear hcz17_0 hcz17_1 hcz17_2); (try clear hfz12_0 hfz12_1 hfz12_2); (try clear hfz15_0 hfz15_1 hfz15_2); (try clear hfz17_0 hfz17_1 hfz17_2); (try clear p7); (try clear q7); obtain ⟨kq, x22_7, rfl, HA, HJ7, BK384, BK386, HB⟩ := hcut
     cases kq with
     | zero => exact absurd HA.out (by simp [spec_GetValue.j0])
     | succ kj7 =>
      have H := HA.out; clear HA; simp only [spec_GetValue.j0] at H
      by_cases c18 : x22_7 = true
      ·subst c18
       rw [if_pos rfl] at H; have H' := am_ H; clear H
       go_wp2
       go_loopg [8, 9] kj7 (fun kq v8 v9 w' => ∃ (x8_2 : Int) (x9_2 : Int), v8 = .int .u64 x8_2 ∧ v9 = .int .i64 x9_2 ∧ Aside0 (spec_GetValue.l0 kq a0 a1 x8_2 x9_2 (wrap64 (bt a0 a1)) 0 (⟨#[]⟩ : ByteArray) = some (r1, r2, r3, r4)) ∧ Aside0 (kq ≤ kj7) ∧ Aside0 (w'.heap[gb384]? = some (.cells #[.int .i64 0, .int .i64 0, .string (⟨#[]⟩ : ByteArray)] 50 (0, 0))) ∧ Aside0 (w'.heap[gb386]? = some (.cells #[.int .i64 (wrap64 (bt a0 a1)), .int .i64 0, .string (⟨#[]⟩ : ByteArray)] 50 (0, 0))) ∧ Aside0 (Below w.heap.size w w'))
       case atStart => exact ⟨(0), (1), rs_, rs_, H', ⟨Nat.le_refl _⟩, ⟨bkx_ BK384.out⟩, ⟨bkx_ BK386.out⟩, ⟨bb_⟩⟩
       case round =>
        clear H'; (try clear c1); (try clear c2); (try clear p2); (try clear c3); (try clear c4); (try clear c5); (try clear c5b0); (try clear c6); (try clear c6b0); (try clear p6); (try clear p7); (try clear q7); (try clear hx7); (try clear c11); (try clear c13); (try clear c13b0); (try clear c13b1); (try clear c14); (try clear c16); (try clear c18); (try clear hcz12_0 hcz12_1 hcz12_2); (try clear hcz15_0 hcz15_1 hcz15_2); (try clear hcz17_0 hcz17_1 hcz17_2); (try clear hfz12_0 hfz12_1 hfz12_2); (try clear hfz15_0 hfz15_1 hfz15_2); (try clear hfz17_0 hfz17_1 hfz17_2); (try clear p2); (try clear p6); (try clear p7); (try clear q7); obtain ⟨x8_2, x9_2, rfl, rfl, HA, HK2, BK384, BK386, HB⟩ := hrel
        cases gk with
        | zero => exact absurd HA.out (by simp [spec_GetValue.l0])
        | succ k2 =>
         have H := HA.out; clear HA; simp only [spec_GetValue.l0] at H
         by_cases c19 : x9_2 < 9
         ·rw [if_pos c19] at H
          have c19b0 := decide_eq_true c19; clear c19; obtain ⟨ji20, hji20⟩ : ∃ j_ : Int, (wrap64 (a1 + x9_2)) = j_ := ⟨_, rfl⟩; (replace H : (if 0 ≤ (ji20) then (if (ji20) < (a0.size : Int) then (spec_GetValue.l0 k2 a0 a1 (IntKind.u64.wrap ((IntKind.u64.wrap (256 * x8_2)) + (IntKind.u64.wrap (bt a0 (ji20))))) (wrap64 (x9_2 + 1)) (wrap64 (bt a0 a1)) 0 (⟨#[]⟩ : ByteArray)) else (none)) else (none)) = some (r1, r2, r3, r4) := by first | (rw [hji20] at H; exact H) | (simp only [hji20] at H ⊢; exact H)); have hji20w : (IntKind.i64.wrap (a1 + x9_2)) = ji20 := (i64_w _).trans hji20
          by_cases c21 : 0 ≤ (ji20)
          ·rw [if_pos c21] at H
           have c21b0 := decide_eq_true c21; clear c21
           by_cases c22 : (ji20) < (a0.size : Int)
           ·rw [if_pos c22] at H
            have c22b0 := decide_eq_true c22; clear c22; have H' := am_ H; clear H; (have p23 : 0 ≤ ((ji20) : Int) := oa_); (have q23 : (ji20) < (a0.size : Int) := oa_); have hx23 := bt_at a0 (ji20); replace p23 := eq_true p23; replace q23 := eq_true q23
            go_wp2
            go_roundg k2
            case measure => have := HJ7.out; have := HK2.out; omega
            case rel => exact ⟨(IntKind.u64.wrap ((IntKind.u64.wrap (256 * x8_2)) + (IntKind.u64.wrap (bt a0 (ji20))))), (wrap64 (x9_2 + 1)), (by first | rfl | (simp; done) | (simp only [← hji20] <;> (first | rfl | simp)) | (simp [*]; done)), rs_, H', ⟨by have := HJ7.out; have := HK2.out; omega⟩, ⟨bkx_ BK384.out⟩, ⟨bkx_ BK386.out⟩, ⟨bb_⟩⟩
           ·rw [if_neg c22] at H
            exact nn_ H
          ·rw [if_neg c21] at H
           exact nn_ H
         ·rw [if_neg c19] at H
          have c19b0 := decide_eq_false c19; clear c19; replace H := bsi_ H; obtain ⟨t387, A240, H⟩ := H
          try dsimp only at H
          have A24 := am_ A240; clear A240
          by_cases c25 : t387 = true
          ·subst c25
           rw [if_pos rfl] at H; simp only [Option.some.injEq, Prod.mk.injEq] at H; obtain ⟨rfl, rfl, rfl, rfl⟩ := H; have hnb26 := NB386_384.out; have hnc26 := NB384_386.out; have hcz27_0 : wr.cell? ⟨gb386, 0, none⟩ = some (.int .i64 (wrap64 (bt a0 a1))) := bc_ BK386 0; have hcz27_1 := bc_ (v := (.int .i64 0)) BK386 1; have hcz27_2 := bc_ (v := (.string (⟨#[]⟩ : ByteArray))) BK386 2; have hfz27_0 := blk_frozen BK386.out 0; have hfz27_1 := blk_frozen BK386.out 1; have hfz27_2 := blk_frozen BK386.out 2
           go_wp2_with (first | ((with_reducible refine gate_callee (f := 50) rfl ?_); refine goesL_ (some 110) rfl rfl Tryz.func50 (by kernel_rfl) rfl #[.agg #[.int .i64 (wrap64 (bt a0 a1)), .int .i64 (wrap64 (x8_2)), .string (⟨#[]⟩ : ByteArray)]] rfl (by (try simp only [List.map_toArray, List.map_cons, List.map_nil]); first | done | rfl | (simp only [List.length_drop, List.length_take]; rfl)) ?_; (with_reducible refine (spec_ValueOk.calls (wrap64 (bt a0 a1)) (wrap64 (x8_2)) (⟨#[]⟩ : ByteArray) true _ A24.out).mono ?_); rintro e w28 ⟨rfl, hb⟩; refine ⟨_, rfl, ?_⟩; replace BK384 := am_ (blk_below (g := gb384) (o := .cells #[.int .i64 0, .int .i64 0, .string (⟨#[]⟩ : ByteArray)] 50 (0, 0)) (bf1_ NB384_386 (bkx_ BK384.out)) hb); replace BK386 := am_ (blk_below (g := gb386) (o := .cells #[.int .i64 (wrap64 (bt a0 a1)), .int .i64 (wrap64 (x8_2)), .string (⟨#[]⟩ : ByteArray)] 50 (0, 0)) (by (with_reducible repeat (first | refine blk_drewN ?_ _ | refine blk_drew ?_ | refine blk_alloc ?_ _)); refine blk_put (cs := #[.int .i64 (wrap64 (bt a0 a1)), .int .i64 0, .string (⟨#[]⟩ : ByteArray)]) ?_ 1 _ rfl; (with_reducible repeat (first | refine blk_drewN ?_ _ | refine blk_drew ?_ | refine blk_alloc ?_ _)); exact BK386.out) hb); replace HB := bs_ hb; (try clear hb); have hcz29_0 : w28.cell? ⟨gb386, 0, none⟩ = some (.int .i64 (wrap64 (bt a0 a1))) := bc_ BK386 0; have hcz29_1 : w28.cell? ⟨gb386, 1, none⟩ = some (.int .i64 (wrap64 (x8_2))) := bc_ BK386 1; have hcz29_2 := bc_ (v := (.string (⟨#[]⟩ : ByteArray))) BK386 2; have hfz29_0 := blk_frozen BK386.out 0; have hfz29_1 := blk_frozen BK386.out 1; have hfz29_2 := blk_frozen BK386.out 2; obtain ⟨hcz30_0, hcz30_1, hcz30_2, hfz30_0, hfz30_1, hfz30_2⟩ := b3_ BK384))
           refine bodyPost_ret (results_ct rfl _ _ gb384 50 #[.int .i64 (wrap64 (bt a0 a1)), .int .i64 (wrap64 (x8_2)), .string (⟨#[]⟩ : ByteArray)] (0, 0) _ rfl (bp3_ (bkx_ BK384.out)) Tryz.underlying50 rfl (by kernel_rfl)) rfl ?_; exact ⟨er_, bb_⟩
          ·replace c25 := Bool.eq_false_iff.mpr c25
           subst c25; (rw [if_neg (show ¬ (false = true) by decide)] at H); simp only [Option.some.injEq, Prod.mk.injEq] at H; obtain ⟨rfl, rfl, rfl, rfl⟩ := H; have hnb31 := NB386_384.out; have hnc31 := NB384_386.out; have hcz32_0 : wr.cell? ⟨gb386, 0, none⟩ = some (.int .i64 (wrap64 (bt a0 a1))) := bc_ BK386 0; have hcz32_1 := bc_ (v := (.int .i64 0)) BK386 1; have hcz32_2 := bc_ (v := (.string (⟨#[]⟩ : ByteArray))) BK386 2; have hfz32_0 := blk_frozen BK386.out 0; have hfz32_1 := blk_frozen BK386.out 1; have hfz32_2 := blk_frozen BK386.out 2
           go_wp2_with (first | ((with_reducible refine gate_callee (f := 50) rfl ?_); refine goesL_ (some 110) rfl rfl Tryz.func50 (by kernel_rfl) rfl #[.agg #[.int .i64 (wrap64 (bt a0 a1)), .int .i64 (wrap64 (x8_2)), .string (⟨#[]⟩ : ByteArray)]] rfl (by (try simp only [List.map_toArray, List.map_cons, List.map_nil]); first | done | rfl | (simp only [List.length_drop, List.length_take]; rfl)) ?_; (with_reducible refine (spec_ValueOk.calls (wrap64 (bt a0 a1)) (wrap64 (x8_2)) (⟨#[]⟩ : ByteArray) false _ A24.out).mono ?_); rintro e w33 ⟨rfl, hb⟩; refine ⟨_, rfl, ?_⟩; replace BK384 := am_ (blk_below (g := gb384) (o := .cells #[.int .i64 0, .int .i64 0, .string (⟨#[]⟩ : ByteArray)] 50 (0, 0)) (bf1_ NB384_386 (bkx_ BK384.out)) hb); replace BK386 := am_ (blk_below (g := gb386) (o := .cells #[.int .i64 (wrap64 (bt a0 a1)), .int .i64 (wrap64 (x8_2)), .string (⟨#[]⟩ : ByteArray)] 50 (0, 0)) (by (with_reducible repeat (first | refine blk_drewN ?_ _ | refine blk_drew ?_ | refine blk_alloc ?_ _)); refine blk_put (cs := #[.int .i64 (wrap64 (bt a0 a1)), .int .i64 0, .string (⟨#[]⟩ : ByteArray)]) ?_ 1 _ rfl; (with_reducible repeat (first | refine blk_drewN ?_ _ | refine blk_drew ?_ | refine blk_alloc ?_ _)); exact BK386.out) hb); replace HB := bs_ hb; (try clear hb); obtain ⟨hcz34_0, hcz34_1, hcz34_2, hfz34_0, hfz34_1, hfz34_2⟩ := b3_ BK384))
           refine bodyPost_ret (results_ct rfl _ _ gb384 50 #[.int .i64 0, .int .i64 0, .string (⟨#[]⟩ : ByteArray)] (0, 0) _ rfl (bp3_ (bkx_ BK384.out)) Tryz.underlying50 rfl (by kernel_rfl)) rfl ?_; exact ⟨er_, bb_⟩
      ·replace c18 := Bool.eq_false_iff.mpr c18
       subst c18; (rw [if_neg (show ¬ (false = true) by decide)] at H); have HC35 := am_ H; clear H
       go_upto_region 12 with (fail)
       go_cut [49] (fun v49 wc => ∃ (kq : Nat) (x49_34 : Bool), v49 = .bool x49_34 ∧ Aside0 (spec_GetValue.j2 kq a0 a1 1 x49_34 (wrap64 (bt a0 a1)) 0 (⟨#[]⟩ : ByteArray) = some (r1, r2, r3, r4)) ∧ Aside0 (kq ≤ kj7) ∧ Aside0 (wc.heap[gb384]? = some (.cells #[.int .i64 0, .int .i64 0, .string (⟨#[]⟩ : ByteArray)] 50 (0, 0))) ∧ Aside0 (wc.heap[gb386]? = some (.cells #[.int .i64 (wrap64 (bt a0 a1)), .int .i64 0, .string (⟨#[]⟩ : ByteArray)] 50 (0, 0))) ∧ Aside0 (Below w.heap.size w wc))
       case first =>
        have H := HC35.out; clear HC35
        by_cases c36 : (wrap64 (bt a0 a1)) = 2
        ·rw [if_pos c36] at H
         have c36b0 : ((wrap64 (bt a0 a1)) == 2) = true := beq_iff_eq.mpr c36; have c36b1 : ((wrap64 (bt a0 a1)) != 2) = false := bne_eq_false_iff_eq.mpr c36; clear c36; (first | rw [c36b0] | (simp only [i64_w, i32_w]; rw [c36b0]) | skip); have H' := am_ H; clear H; have hnb37 := NB386_384.out; have hnc37 := NB384_386.out; have hcz38_0 : wc.cell? ⟨gb386, 0, none⟩ = some (.int .i64 (wrap64 (bt a0 a1))) := bc_ BK386 0; have hcz38_1 := bc_ (v := (.int .i64 0)) BK386 1; have hcz38_2 := bc_ (v := (.string (⟨#[]⟩ : ByteArray))) BK386 2; have hfz38_0 := blk_frozen BK386.out 0; have hfz38_1 := blk_frozen BK386.out 1; have hfz38_2 := blk_frozen BK386.out 2
         go_wp2
         go_meet
         case rel => exact ⟨_, (decide ((wrap64 ((a0.size : Int) - a1)) ≥ 2)), rs_, H', ⟨by have := HJ7.out; first | omega | exact Nat.le_refl _⟩, ⟨bkx_ BK384.out⟩, ⟨bkx_ BK386.out⟩, ⟨bb_⟩⟩
        ·rw [if_neg c36] at H
         have c36b0 : ((wrap64 (bt a0 a1)) == 2) = false := beq_eq_false_iff_ne.mpr c36; have c36b1 : ((wrap64 (bt a0 a1)) != 2) = true := bne_iff_ne.mpr c36; (first | rw [c36b0] | (simp only [i64_w, i32_w]; rw [c36b0]) | skip); have H' := am_ H; clear H; have hnb39 := NB386_384.out; have hnc39 := NB384_386.out; have hcz40_0 : wc.cell? ⟨gb386, 0, none⟩ = some (.int .i64 (wrap64 (bt a0 a1))) := bc_ BK386 0; have hcz40_1 := bc_ (v := (.int .i64 0)) BK386 1; have hcz40_2 := bc_ (v := (.string (⟨#[]⟩ : ByteArray))) BK386 2; have hfz40_0 := blk_frozen BK386.out 0; have hfz40_1 := blk_frozen BK386.out 1; have hfz40_2 := blk_frozen BK386.out 2
         go_wp2
         go_meet
         case rel => exact ⟨_, (false), rs_, H', ⟨by have := HJ7.out; first | omega | exact Nat.le_refl _⟩, ⟨bkx_ BK384.out⟩, ⟨bkx_ BK386.out⟩, ⟨bb_⟩⟩
       case rest =>
        clear HC35; (try clear c1); (try clear c2); (try clear p2); (try clear q2); (try clear hx2); (try clear c3); (try clear c4); (try clear c5); (try clear c5b0); (try clear c6); (try clear c6b0); (try clear p6); (try clear p7); (try clear q7); (try clear hx7); (try clear c11); (try clear c13); (try clear c13b0); (try clear c13b1); (try clear c14); (try clear c16); (try clear c18); (try clear c19); (try clear c19b0); (try clear c21); (try clear c21b0); (try clear c22); (try clear c22b0); (try clear p23); (try clear q23); (try clear hx23); (try clear c25); (try clear c26); (try clear c27); (try clear c31); (try clear c36); (try clear c36b0); (try clear c36b1); (try clear c37); (try clear c39); (try clear hcz12_0 hcz12_1 hcz12_2); (try clear hcz15_0 hcz15_1 hcz15_2); (try clear hcz17_0 hcz17_1 hcz17_2); (try clear hcz27_0 hcz27_1 hcz27_2); (try clear hcz29_0 hcz29_1 hcz29_2); (try clear hcz30_0 hcz30_1 hcz30_2); (try clear hcz32_0 hcz32_1 hcz32_2); (try clear hcz34_0 hcz34_1 hcz34_2); (try clear hcz38_0 hcz38_1 hcz38_2); (try clear hcz40_0 hcz40_1 hcz40_2); (try clear hfz12_0 hfz12_1 hfz12_2); (try clear hfz15_0 hfz15_1 hfz15_2); (try clear hfz17_0 hfz17_1 hfz17_2); (try clear hfz27_0 hfz27_1 hfz27_2); (try clear hfz29_0 hfz29_1 hfz29_2); (try clear hfz30_0 hfz30_1 hfz30_2); (try clear hfz32_0 hfz32_1 hfz32_2); (try clear hfz34_0 hfz34_1 hfz34_2); (try clear hfz38_0 hfz38_1 hfz38_2); (try clear hfz40_0 hfz40_1 hfz40_2); (try clear p2); (try clear p23); (try clear p6); (try clear p7); (try clear q23); (try clear q7); obtain ⟨kq, x49_34, rfl, HA, HJ34, BK384, BK386, HB⟩ := hcut
        cases kq with
        | zero => exact absurd HA.out (by simp [spec_GetValue.j2])
        | succ kj34 =>
         have H := HA.out; clear HA; simp only [spec_GetValue.j2] at H
         by_cases c41 : x49_34 = true
         ·subst c41
          rw [if_pos rfl] at H; obtain ⟨ji42, hji42⟩ : ∃ j_ : Int, (wrap64 (a1 + 1)) = j_ := ⟨_, rfl⟩; (replace H : (if 0 ≤ (ji42) then (if (ji42) < (a0.size : Int) then ((spec_ValueOk.f (wrap64 (bt a0 a1)) (wrap64 (bt a0 (ji42))) (⟨#[]⟩ : ByteArray)).bind fun t388 => (if t388 = true then (some ((wrap64 (bt a0 a1)), wrap64 (bt a0 (ji42)), (⟨#[]⟩ : ByteArray), wrap64 (a1 + 2))) else (some (0, 0, (⟨#[]⟩ : ByteArray), (-1))))) else (none)) else (none)) = some (r1, r2, r3, r4) := by first | (rw [hji42] at H; exact H) | (simp only [hji42] at H ⊢; exact H)); have hji42w : (IntKind.i64.wrap (a1 + 1)) = ji42 := (i64_w _).trans hji42
          by_cases c43 : 0 ≤ (ji42)
          ·rw [if_pos c43] at H
           have c43b0 := decide_eq_true c43; clear c43
           by_cases c44 : (ji42) < (a0.size : Int)
           ·rw [if_pos c44] at H
            have c44b0 := decide_eq_true c44; clear c44; replace H := bsi_ H; obtain ⟨t388, A460, H⟩ := H
            try dsimp only at H
            have A46 := am_ A460; clear A460
            by_cases c47 : t388 = true
            ·subst c47
             rw [if_pos rfl] at H; simp only [Option.some.injEq, Prod.mk.injEq] at H; obtain ⟨rfl, rfl, rfl, rfl⟩ := H; (have p45 : 0 ≤ ((ji42) : Int) := oa_); (have q45 : (ji42) < (a0.size : Int) := oa_); have hx45 := bt_at a0 (ji42); replace p45 := eq_true p45; replace q45 := eq_true q45; have hnb48 := NB386_384.out; have hnc48 := NB384_386.out; have hcz49_0 : wc.cell? ⟨gb386, 0, none⟩ = some (.int .i64 (wrap64 (bt a0 a1))) := bc_ BK386 0; have hcz49_1 := bc_ (v := (.int .i64 0)) BK386 1; have hcz49_2 := bc_ (v := (.string (⟨#[]⟩ : ByteArray))) BK386 2; have hfz49_0 := blk_frozen BK386.out 0; have hfz49_1 := blk_frozen BK386.out 1; have hfz49_2 := blk_frozen BK386.out 2
             go_wp2_with (first | ((with_reducible refine gate_callee (f := 50) rfl ?_); refine goesL_ (some 110) rfl rfl Tryz.func50 (by kernel_rfl) rfl #[.agg #[.int .i64 (wrap64 (bt a0 a1)), .int .i64 (wrap64 (bt a0 (ji42))), .string (⟨#[]⟩ : ByteArray)]] rfl (by (try simp only [List.map_toArray, List.map_cons, List.map_nil]); first | done | (simp only [hji42]; rfl) | rfl | (simp only [List.length_drop, List.length_take]; rfl)) ?_; (with_reducible refine (spec_ValueOk.calls (wrap64 (bt a0 a1)) (wrap64 (bt a0 (ji42))) (⟨#[]⟩ : ByteArray) true _ A46.out).mono ?_); rintro e w50 ⟨rfl, hb⟩; refine ⟨_, rfl, ?_⟩; replace BK384 := am_ (blk_below (g := gb384) (o := .cells #[.int .i64 0, .int .i64 0, .string (⟨#[]⟩ : ByteArray)] 50 (0, 0)) (bf1_ NB384_386 (bkx_ BK384.out)) hb); replace BK386 := am_ (blk_below (g := gb386) (o := .cells #[.int .i64 (wrap64 (bt a0 a1)), .int .i64 (wrap64 (bt a0 (ji42))), .string (⟨#[]⟩ : ByteArray)] 50 (0, 0)) (by (with_reducible repeat (first | refine blk_drewN ?_ _ | refine blk_drew ?_ | refine blk_alloc ?_ _)); refine blk_put (cs := #[.int .i64 (wrap64 (bt a0 a1)), .int .i64 0, .string (⟨#[]⟩ : ByteArray)]) ?_ 1 _ rfl; (with_reducible repeat (first | refine blk_drewN ?_ _ | refine blk_drew ?_ | refine blk_alloc ?_ _)); exact BK386.out) hb); replace HB := bs_ hb; (try clear hb); have hcz51_0 : w50.cell? ⟨gb386, 0, none⟩ = some (.int .i64 (wrap64 (bt a0 a1))) := bc_ BK386 0; have hcz51_1 : w50.cell? ⟨gb386, 1, none⟩ = some (.int .i64 (wrap64 (bt a0 (ji42)))) := bc_ BK386 1; have hcz51_2 := bc_ (v := (.string (⟨#[]⟩ : ByteArray))) BK386 2; have hfz51_0 := blk_frozen BK386.out 0; have hfz51_1 := blk_frozen BK386.out 1; have hfz51_2 := blk_frozen BK386.out 2; obtain ⟨hcz52_0, hcz52_1, hcz52_2, hfz52_0, hfz52_1, hfz52_2⟩ := b3_ BK384))
             refine bodyPost_ret (results_ct rfl _ _ gb384 50 #[.int .i64 (wrap64 (bt a0 a1)), .int .i64 (wrap64 (bt a0 (ji42))), .string (⟨#[]⟩ : ByteArray)] (0, 0) _ rfl (bp3_ (bkx_ BK384.out)) Tryz.underlying50 rfl (by kernel_rfl)) rfl ?_; (exact ⟨by first | rfl | (simp [errW_none, errW_some] <;> rfl) | (simp only [← hji42]; first | rfl | (simp [errW_none, errW_some] <;> rfl)) | (simp [*, errW_none, errW_some] <;> rfl), ab31_⟩)
            ·replace c47 := Bool.eq_false_iff.mpr c47
             subst c47; (rw [if_neg (show ¬ (false = true) by decide)] at H); simp only [Option.some.injEq, Prod.mk.injEq] at H; obtain ⟨rfl, rfl, rfl, rfl⟩ := H; (have p45 : 0 ≤ ((ji42) : Int) := oa_); (have q45 : (ji42) < (a0.size : Int) := oa_); have hx45 := bt_at a0 (ji42); replace p45 := eq_true p45; replace q45 := eq_true q45; have hnb53 := NB386_384.out; have hnc53 := NB384_386.out; have hcz54_0 : wc.cell? ⟨gb386, 0, none⟩ = some (.int .i64 (wrap64 (bt a0 a1))) := bc_ BK386 0; have hcz54_1 := bc_ (v := (.int .i64 0)) BK386 1; have hcz54_2 := bc_ (v := (.string (⟨#[]⟩ : ByteArray))) BK386 2; have hfz54_0 := blk_frozen BK386.out 0; have hfz54_1 := blk_frozen BK386.out 1; have hfz54_2 := blk_frozen BK386.out 2
             go_wp2_with (first | ((with_reducible refine gate_callee (f := 50) rfl ?_); refine goesL_ (some 110) rfl rfl Tryz.func50 (by kernel_rfl) rfl #[.agg #[.int .i64 (wrap64 (bt a0 a1)), .int .i64 (wrap64 (bt a0 (ji42))), .string (⟨#[]⟩ : ByteArray)]] rfl (by (try simp only [List.map_toArray, List.map_cons, List.map_nil]); first | done | (simp only [hji42]; rfl) | rfl | (simp only [List.length_drop, List.length_take]; rfl)) ?_; (with_reducible refine (spec_ValueOk.calls (wrap64 (bt a0 a1)) (wrap64 (bt a0 (ji42))) (⟨#[]⟩ : ByteArray) false _ A46.out).mono ?_); rintro e w55 ⟨rfl, hb⟩; refine ⟨_, rfl, ?_⟩; replace BK384 := am_ (blk_below (g := gb384) (o := .cells #[.int .i64 0, .int .i64 0, .string (⟨#[]⟩ : ByteArray)] 50 (0, 0)) (bf1_ NB384_386 (bkx_ BK384.out)) hb); replace BK386 := am_ (blk_below (g := gb386) (o := .cells #[.int .i64 (wrap64 (bt a0 a1)), .int .i64 (wrap64 (bt a0 (ji42))), .string (⟨#[]⟩ : ByteArray)] 50 (0, 0)) (by (with_reducible repeat (first | refine blk_drewN ?_ _ | refine blk_drew ?_ | refine blk_alloc ?_ _)); refine blk_put (cs := #[.int .i64 (wrap64 (bt a0 a1)), .int .i64 0, .string (⟨#[]⟩ : ByteArray)]) ?_ 1 _ rfl; (with_reducible repeat (first | refine blk_drewN ?_ _ | refine blk_drew ?_ | refine blk_alloc ?_ _)); exact BK386.out) hb); replace HB := bs_ hb; (try clear hb); obtain ⟨hcz56_0, hcz56_1, hcz56_2, hfz56_0, hfz56_1, hfz56_2⟩ := b3_ BK384))
             refine bodyPost_ret (results_ct rfl _ _ gb384 50 #[.int .i64 0, .int .i64 0, .string (⟨#[]⟩ : ByteArray)] (0, 0) _ rfl (bp3_ (bkx_ BK384.out)) Tryz.underlying50 rfl (by kernel_rfl)) rfl ?_; (exact ⟨by first | rfl | (simp [errW_none, errW_some] <;> rfl) | (simp only [← hji42]; first | rfl | (simp [errW_none, errW_some] <;> rfl)) | (simp [*, errW_none, errW_some] <;> rfl), ab31_⟩)
           ·rw [if_neg c44] at H
            exact nn_ H
          ·rw [if_neg c43] at H
           exact nn_ H
         ·replace c41 := Bool.eq_false_iff.mpr c41
          subst c41; (rw [if_neg (show ¬ (false = true) by decide)] at H); have HC57 := am_ H; clear H
          go_upto_region 15 with (fail)
          go_cut [66] (fun v66 wc => ∃ (kq : Nat) (x66_56 : Bool), v66 = .bool x66_56 ∧ Aside0 (spec_GetValue.j3 kq a0 a1 1 x66_56 (wrap64 (bt a0 a1)) 0 (⟨#[]⟩ : ByteArray) = some (r1, r2, r3, r4)) ∧ Aside0 (kq ≤ kj34) ∧ Aside0 (wc.heap[gb384]? = some (.cells #[.int .i64 0, .int .i64 0, .string (⟨#[]⟩ : ByteArray)] 50 (0, 0))) ∧ Aside0 (wc.heap[gb386]? = some (.cells #[.int .i64 (wrap64 (bt a0 a1)), .int .i64 0, .string (⟨#[]⟩ : ByteArray)] 50 (0, 0))) ∧ Aside0 (Below w.heap.size w wc))
          case first =>
           have H := HC57.out; clear HC57
           by_cases c58 : (wrap64 (bt a0 a1)) = 3
           ·rw [if_pos c58] at H
            have c58b0 : ((wrap64 (bt a0 a1)) == 3) = true := beq_iff_eq.mpr c58; have c58b1 : ((wrap64 (bt a0 a1)) != 3) = false := bne_eq_false_iff_eq.mpr c58; clear c58; (first | rw [c58b0] | (simp only [i64_w, i32_w]; rw [c58b0]) | skip)
            by_cases c59 : (wrap64 ((a0.size : Int) - a1)) ≥ 2
            ·rw [if_pos c59] at H
             have c59b0 := decide_eq_true c59; clear c59; obtain ⟨ji60, hji60⟩ : ∃ j_ : Int, (wrap64 (a1 + 1)) = j_ := ⟨_, rfl⟩; (replace H : (if 0 ≤ (ji60) then (if (ji60) < (a0.size : Int) then (spec_GetValue.j3 kj34 a0 a1 1 (decide ((wrap64 ((wrap64 ((a0.size : Int) - a1)) - 2)) ≥ (wrap64 (bt a0 (ji60))))) (wrap64 (bt a0 a1)) 0 (⟨#[]⟩ : ByteArray)) else (none)) else (none)) = some (r1, r2, r3, r4) := by first | (rw [hji60] at H; exact H) | (simp only [hji60] at H ⊢; exact H)); have hji60w : (IntKind.i64.wrap (a1 + 1)) = ji60 := (i64_w _).trans hji60
             by_cases c61 : 0 ≤ (ji60)
             ·rw [if_pos c61] at H
              have c61b0 := decide_eq_true c61; clear c61
              by_cases c62 : (ji60) < (a0.size : Int)
              ·rw [if_pos c62] at H
               have c62b0 := decide_eq_true c62; clear c62; have H' := am_ H; clear H; have hnb64 := NB386_384.out; have hnc64 := NB384_386.out; have hcz65_0 : wc.cell? ⟨gb386, 0, none⟩ = some (.int .i64 (wrap64 (bt a0 a1))) := bc_ BK386 0; have hcz65_1 := bc_ (v := (.int .i64 0)) BK386 1; have hcz65_2 := bc_ (v := (.string (⟨#[]⟩ : ByteArray))) BK386 2; have hfz65_0 := blk_frozen BK386.out 0; have hfz65_1 := blk_frozen BK386.out 1; have hfz65_2 := blk_frozen BK386.out 2; (have p63 : 0 ≤ ((ji60) : Int) := oa_); (have q63 : (ji60) < (a0.size : Int) := oa_); have hx63 := bt_at a0 (ji60); replace p63 := eq_true p63; replace q63 := eq_true q63
               go_wp2
               go_meet
               case rel => exact ⟨_, (decide ((wrap64 ((wrap64 ((a0.size : Int) - a1)) - 2)) ≥ (wrap64 (bt a0 (ji60))))), (by first | rfl | (simp; done) | (simp only [← hji60] <;> (first | rfl | simp)) | (simp [*]; done)), H', ⟨by have := HJ7.out; have := HJ34.out; first | omega | exact Nat.le_refl _⟩, ⟨bkx_ BK384.out⟩, ⟨bkx_ BK386.out⟩, ⟨bb_⟩⟩
              ·rw [if_neg c62] at H
               exact nn_ H
             ·rw [if_neg c61] at H
              exact nn_ H
            ·rw [if_neg c59] at H
             have c59b0 := decide_eq_false c59; clear c59; have H' := am_ H; clear H; have hnb66 := NB386_384.out; have hnc66 := NB384_386.out; have hcz67_0 : wc.cell? ⟨gb386, 0, none⟩ = some (.int .i64 (wrap64 (bt a0 a1))) := bc_ BK386 0; have hcz67_1 := bc_ (v := (.int .i64 0)) BK386 1; have hcz67_2 := bc_ (v := (.string (⟨#[]⟩ : ByteArray))) BK386 2; have hfz67_0 := blk_frozen BK386.out 0; have hfz67_1 := blk_frozen BK386.out 1; have hfz67_2 := blk_frozen BK386.out 2
             go_wp2
             go_meet
             case rel => exact ⟨_, (false), rs_, H', ⟨by have := HJ7.out; have := HJ34.out; first | omega | exact Nat.le_refl _⟩, ⟨bkx_ BK384.out⟩, ⟨bkx_ BK386.out⟩, ⟨bb_⟩⟩
           ·rw [if_neg c58] at H
            have c58b0 : ((wrap64 (bt a0 a1)) == 3) = false := beq_eq_false_iff_ne.mpr c58; have c58b1 : ((wrap64 (bt a0 a1)) != 3) = true := bne_iff_ne.mpr c58; (first | rw [c58b0] | (simp only [i64_w, i32_w]; rw [c58b0]) | skip); have H' := am_ H; clear H; have hnb68 := NB386_384.out; have hnc68 := NB384_386.out; have hcz69_0 : wc.cell? ⟨gb386, 0, none⟩ = some (.int .i64 (wrap64 (bt a0 a1))) := bc_ BK386 0; have hcz69_1 := bc_ (v := (.int .i64 0)) BK386 1; have hcz69_2 := bc_ (v := (.string (⟨#[]⟩ : ByteArray))) BK386 2; have hfz69_0 := blk_frozen BK386.out 0; have hfz69_1 := blk_frozen BK386.out 1; have hfz69_2 := blk_frozen BK386.out 2
            go_wp2
            go_meet
            case rel => exact ⟨_, (false), rs_, H', ⟨by have := HJ7.out; have := HJ34.out; first | omega | exact Nat.le_refl _⟩, ⟨bkx_ BK384.out⟩, ⟨bkx_ BK386.out⟩, ⟨bb_⟩⟩
          case rest =>
           clear HC57; (try clear c1); (try clear c2); (try clear p2); (try clear q2); (try clear hx2); (try clear c3); (try clear c4); (try clear p4); (try clear q4); (try clear hx4); (try clear c5); (try clear c5b0); (try clear c6); (try clear c6b0); (try clear p6); (try clear q6); (try clear hx6); (try clear p7); (try clear q7); (try clear hx7); (try clear c11); (try clear c13); (try clear c13b0); (try clear c13b1); (try clear c14); (try clear c16); (try clear c18); (try clear c19); (try clear c19b0); (try clear c21); (try clear c21b0); (try clear c22); (try clear c22b0); (try clear p23); (try clear q23); (try clear hx23); (try clear c25); (try clear c26); (try clear c27); (try clear c31); (try clear c36); (try clear c36b0); (try clear c36b1); (try clear c37); (try clear c39); (try clear c41); (try clear c43); (try clear c43b0); (try clear c44); (try clear c44b0); (try clear p45); (try clear q45); (try clear hx45); (try clear c47); (try clear c48); (try clear c50); (try clear c53); (try clear c58); (try clear c58b0); (try clear c58b1); (try clear c59); (try clear c59b0); (try clear c61); (try clear c61b0); (try clear c62); (try clear c62b0); (try clear p63); (try clear q63); (try clear hx63); (try clear c64); (try clear p64); (try clear c66); (try clear c68); (try clear hcz12_0 hcz12_1 hcz12_2); (try clear hcz15_0 hcz15_1 hcz15_2); (try clear hcz17_0 hcz17_1 hcz17_2); (try clear hcz27_0 hcz27_1 hcz27_2); (try clear hcz29_0 hcz29_1 hcz29_2); (try clear hcz30_0 hcz30_1 hcz30_2); (try clear hcz32_0 hcz32_1 hcz32_2); (try clear hcz34_0 hcz34_1 hcz34_2); (try clear hcz38_0 hcz38_1 hcz38_2); (try clear hcz40_0 hcz40_1 hcz40_2); (try clear hcz49_0 hcz49_1 hcz49_2); (try clear hcz51_0 hcz51_1 hcz51_2); (try clear hcz52_0 hcz52_1 hcz52_2); (try clear hcz54_0 hcz54_1 hcz54_2); (try clear hcz56_0 hcz56_1 hcz56_2); (try clear hcz65_0 hcz65_1 hcz65_2); (try clear hcz67_0 hcz67_1 hcz67_2); (try clear hcz69_0 hcz69_1 hcz69_2); (try clear hfz12_0 hfz12_1 hfz12_2); (try clear hfz15_0 hfz15_1 hfz15_2); (try clear hfz17_0 hfz17_1 hfz17_2); (try clear hfz27_0 hfz27_1 hfz27_2); (try clear hfz29_0 hfz29_1 hfz29_2); (try clear hfz30_0 hfz30_1 hfz30_2); (try clear hfz32_0 hfz32_1 hfz32_2); (try clear hfz34_0 hfz34_1 hfz34_2); (try clear hfz38_0 hfz38_1 hfz38_2); (try clear hfz40_0 hfz40_1 hfz40_2); (try clear hfz49_0 hfz49_1 hfz49_2); (try clear hfz51_0 hfz51_1 hfz51_2); (try clear hfz52_0 hfz52_1 hfz52_2); (try clear hfz54_0 hfz54_1 hfz54_2); (try clear hfz56_0 hfz56_1 hfz56_2); (try clear hfz65_0 hfz65_1 hfz65_2); (try clear hfz67_0 hfz67_1 hfz67_2); (try clear hfz69_0 hfz69_1 hfz69_2); (try clear p2); (try clear p23); (try clear p45); (try clear p6); (try clear p63); (try clear p7); (try clear q2); (try clear q23); (try clear q45); (try clear q63); (try clear q7); obtain ⟨kq, x66_56, rfl, HA, HJ56, BK384, BK386, HB⟩ := hcut
           cases kq with
           | zero => exact absurd HA.out (by simp [spec_GetValue.j3])
           | succ kj56 =>
            have H := HA.out; clear HA; simp only [spec_GetValue.j3] at H
            by_cases c70 : x66_56 = true
            ·subst c70
             rw [if_pos rfl] at H; obtain ⟨ji71, hji71⟩ : ∃ j_ : Int, (wrap64 (a1 + 1)) = j_ := ⟨_, rfl⟩; (replace H : (if 0 ≤ (ji71) then (if (ji71) < (a0.size : Int) then (if 0 ≤ (wrap64 (a1 + 2)) then (if (wrap64 (a1 + 2)) ≤ (wrap64 (a1 + (wrap64 (2 + (wrap64 (bt a0 (ji71))))))) then (if (wrap64 (a1 + (wrap64 (2 + (wrap64 (bt a0 (ji71))))))) ≤ (a0.size : Int) then ((spec_ValueOk.f (wrap64 (bt a0 a1)) 0 (a0.extract ((wrap64 (a1 + 2)) : Int).toNat ((wrap64 (a1 + (wrap64 (2 + (wrap64 (bt a0 (ji71))))))) : Int).toNat)).bind fun t389 => (if t389 = true then (some ((wrap64 (bt a0 a1)), 0, a0.extract ((wrap64 (a1 + 2)) : Int).toNat ((wrap64 (a1 + (wrap64 (2 + (wrap64 (bt a0 (ji71))))))) : Int).toNat, wrap64 (a1 + (wrap64 (2 + (wrap64 (bt a0 (ji71)))))))) else (some (0, 0, (⟨#[]⟩ : ByteArray), (-1))))) else (none)) else (none)) else (none)) else (none)) else (none)) = some (r1, r2, r3, r4) := by first | (rw [hji71] at H; exact H) | (simp only [hji71] at H ⊢; exact H)); have hji71w : (IntKind.i64.wrap (a1 + 1)) = ji71 := (i64_w _).trans hji71
             by_cases c72 : 0 ≤ (ji71)
             ·rw [if_pos c72] at H
              have c72b0 := decide_eq_true c72; clear c72
              by_cases c73 : (ji71) < (a0.size : Int)
              ·rw [if_pos c73] at H
               have c73b0 := decide_eq_true c73; clear c73; obtain ⟨ji75, hji75⟩ : ∃ j_ : Int, (wrap64 (a1 + 2)) = j_ := ⟨_, rfl⟩; (replace H : (if 0 ≤ (ji75) then (if (ji75) ≤ (wrap64 (a1 + (wrap64 (2 + (wrap64 (bt a0 (ji71))))))) then (if (wrap64 (a1 + (wrap64 (2 + (wrap64 (bt a0 (ji71))))))) ≤ (a0.size : Int) then ((spec_ValueOk.f (wrap64 (bt a0 a1)) 0 (a0.extract ((ji75) : Int).toNat ((wrap64 (a1 + (wrap64 (2 + (wrap64 (bt a0 (ji71))))))) : Int).toNat)).bind fun t389 => (if t389 = true then (some ((wrap64 (bt a0 a1)), 0, a0.extract ((ji75) : Int).toNat ((wrap64 (a1 + (wrap64 (2 + (wrap64 (bt a0 (ji71))))))) : Int).toNat, wrap64 (a1 + (wrap64 (2 + (wrap64 (bt a0 (ji71)))))))) else (some (0, 0, (⟨#[]⟩ : ByteArray), (-1))))) else (none)) else (none)) else (none)) = some (r1, r2, r3, r4) := by first | (rw [hji75] at H; exact H) | (simp only [hji75] at H ⊢; exact H)); have hji75w : (IntKind.i64.wrap (a1 + 2)) = ji75 := (i64_w _).trans hji75
               by_cases c76 : 0 ≤ (ji75)
               ·rw [if_pos c76] at H
                have c76b0 := eq_true c76; have c76b1 := decide_eq_true c76; clear c76
                by_cases c77 : (ji75) ≤ (wrap64 (a1 + (wrap64 (2 + (wrap64 (bt a0 (ji71)))))))
                ·rw [if_pos c77] at H
                 have c77b0 := eq_true c77; have c77b1 := decide_eq_true c77
                 by_cases c78 : (wrap64 (a1 + (wrap64 (2 + (wrap64 (bt a0 (ji71))))))) ≤ (a0.size : Int)
                 ·rw [if_pos c78] at H
                  have c78b0 := eq_true c78; have c78b1 := decide_eq_true c78; replace H := bsi_ H; obtain ⟨t389, A790, H⟩ := H
                  try dsimp only at H
                  have A79 := am_ A790; clear A790
                  by_cases c80 : t389 = true
                  ·subst c80
                   rw [if_pos rfl] at H; simp only [Option.some.injEq, Prod.mk.injEq] at H; obtain ⟨rfl, rfl, rfl, rfl⟩ := H; (have p74 : 0 ≤ ((ji71) : Int) := oa_); (have q74 : (ji71) < (a0.size : Int) := oa_); have hx74 := bt_at a0 (ji71); replace p74 := eq_true p74; replace q74 := eq_true q74; have hnb81 := NB386_384.out; have hnc81 := NB384_386.out; have hcz82_0 : wc.cell? ⟨gb386, 0, none⟩ = some (.int .i64 (wrap64 (bt a0 a1))) := bc_ BK386 0; have hcz82_1 := bc_ (v := (.int .i64 0)) BK386 1; have hcz82_2 := bc_ (v := (.string (⟨#[]⟩ : ByteArray))) BK386 2; have hfz82_0 := blk_frozen BK386.out 0; have hfz82_1 := blk_frozen BK386.out 1; have hfz82_2 := blk_frozen BK386.out 2
                   go_wp2_with (first | ((with_reducible refine gate_callee (f := 50) rfl ?_); refine goesL_ (some 110) rfl rfl Tryz.func50 (by kernel_rfl) rfl #[.agg #[.int .i64 (wrap64 (bt a0 a1)), .int .i64 0, .string (a0.extract ((ji75) : Int).toNat ((wrap64 (a1 + (wrap64 (2 + (wrap64 (bt a0 (ji71))))))) : Int).toNat)]] rfl (by (try simp only [List.map_toArray, List.map_cons, List.map_nil]); first | done | (simp only [hji71, hji75]; rfl) | rfl | (simp only [List.length_drop, List.length_take]; rfl)) ?_; (with_reducible refine (spec_ValueOk.calls (wrap64 (bt a0 a1)) 0 (a0.extract ((ji75) : Int).toNat ((wrap64 (a1 + (wrap64 (2 + (wrap64 (bt a0 (ji71))))))) : Int).toNat) true _ A79.out).mono ?_); rintro e w83 ⟨rfl, hb⟩; refine ⟨_, rfl, ?_⟩; replace BK384 := am_ (blk_below (g := gb384) (o := .cells #[.int .i64 0, .int .i64 0, .string (⟨#[]⟩ : ByteArray)] 50 (0, 0)) (bf1_ NB384_386 (bkx_ BK384.out)) hb); replace BK386 := am_ (blk_below (g := gb386) (o := .cells #[.int .i64 (wrap64 (bt a0 a1)), .int .i64 0, .string (a0.extract ((ji75) : Int).toNat ((wrap64 (a1 + (wrap64 (2 + (wrap64 (bt a0 (ji71))))))) : Int).toNat)] 50 (0, 0)) (by (with_reducible repeat (first | refine blk_drewN ?_ _ | refine blk_drew ?_ | refine blk_alloc ?_ _)); refine blk_put (cs := #[.int .i64 (wrap64 (bt a0 a1)), .int .i64 0, .string (⟨#[]⟩ : ByteArray)]) ?_ 2 _ rfl; (with_reducible repeat (first | refine blk_drewN ?_ _ | refine blk_drew ?_ | refine blk_alloc ?_ _)); exact BK386.out) hb); replace HB := bs_ hb; (try clear hb); have hcz84_0 : w83.cell? ⟨gb386, 0, none⟩ = some (.int .i64 (wrap64 (bt a0 a1))) := bc_ BK386 0; have hcz84_1 := bc_ (v := (.int .i64 0)) BK386 1; have hcz84_2 : w83.cell? ⟨gb386, 2, none⟩ = some (.string (a0.extract ((ji75) : Int).toNat ((wrap64 (a1 + (wrap64 (2 + (wrap64 (bt a0 (ji71))))))) : Int).toNat)) := bc_ BK386 2; have hfz84_0 := blk_frozen BK386.out 0; have hfz84_1 := blk_frozen BK386.out 1; have hfz84_2 := blk_frozen BK386.out 2; obtain ⟨hcz85_0, hcz85_1, hcz85_2, hfz85_0, hfz85_1, hfz85_2⟩ := b3_ BK384))
                   refine bodyPost_ret (results_ct rfl _ _ gb384 50 #[.int .i64 (wrap64 (bt a0 a1)), .int .i64 0, .string (a0.extract ((ji75) : Int).toNat ((wrap64 (a1 + (wrap64 (2 + (wrap64 (bt a0 (ji71))))))) : Int).toNat)] (0, 0) _ rfl (bp3_ (bkx_ BK384.out)) Tryz.underlying50 rfl (by kernel_rfl)) rfl ?_; (exact ⟨by first | rfl | (simp [errW_none, errW_some] <;> rfl) | (simp only [← hji71, ← hji75]; first | rfl | (simp [errW_none, errW_some] <;> rfl)) | (simp [*, errW_none, errW_some] <;> rfl), ab31_⟩)
                  ·replace c80 := Bool.eq_false_iff.mpr c80
                   subst c80; (rw [if_neg (show ¬ (false = true) by decide)] at H); simp only [Option.some.injEq, Prod.mk.injEq] at H; obtain ⟨rfl, rfl, rfl, rfl⟩ := H; (have p74 : 0 ≤ ((ji71) : Int) := oa_); (have q74 : (ji71) < (a0.size : Int) := oa_); have hx74 := bt_at a0 (ji71); replace p74 := eq_true p74; replace q74 := eq_true q74; have hnb86 := NB386_384.out; have hnc86 := NB384_386.out; have hcz87_0 : wc.cell? ⟨gb386, 0, none⟩ = some (.int .i64 (wrap64 (bt a0 a1))) := bc_ BK386 0; have hcz87_1 := bc_ (v := (.int .i64 0)) BK386 1; have hcz87_2 := bc_ (v := (.string (⟨#[]⟩ : ByteArray))) BK386 2; have hfz87_0 := blk_frozen BK386.out 0; have hfz87_1 := blk_frozen BK386.out 1; have hfz87_2 := blk_frozen BK386.out 2
                   go_wp2_with (first | ((with_reducible refine gate_callee (f := 50) rfl ?_); refine goesL_ (some 110) rfl rfl Tryz.func50 (by kernel_rfl) rfl #[.agg #[.int .i64 (wrap64 (bt a0 a1)), .int .i64 0, .string (a0.extract ((ji75) : Int).toNat ((wrap64 (a1 + (wrap64 (2 + (wrap64 (bt a0 (ji71))))))) : Int).toNat)]] rfl (by (try simp only [List.map_toArray, List.map_cons, List.map_nil]); first | done | (simp only [hji71, hji75]; rfl) | rfl | (simp only [List.length_drop, List.length_take]; rfl)) ?_; (with_reducible refine (spec_ValueOk.calls (wrap64 (bt a0 a1)) 0 (a0.extract ((ji75) : Int).toNat ((wrap64 (a1 + (wrap64 (2 + (wrap64 (bt a0 (ji71))))))) : Int).toNat) false _ A79.out).mono ?_); rintro e w88 ⟨rfl, hb⟩; refine ⟨_, rfl, ?_⟩; replace BK384 := am_ (blk_below (g := gb384) (o := .cells #[.int .i64 0, .int .i64 0, .string (⟨#[]⟩ : ByteArray)] 50 (0, 0)) (bf1_ NB384_386 (bkx_ BK384.out)) hb); replace BK386 := am_ (blk_below (g := gb386) (o := .cells #[.int .i64 (wrap64 (bt a0 a1)), .int .i64 0, .string (a0.extract ((ji75) : Int).toNat ((wrap64 (a1 + (wrap64 (2 + (wrap64 (bt a0 (ji71))))))) : Int).toNat)] 50 (0, 0)) (by (with_reducible repeat (first | refine blk_drewN ?_ _ | refine blk_drew ?_ | refine blk_alloc ?_ _)); refine blk_put (cs := #[.int .i64 (wrap64 (bt a0 a1)), .int .i64 0, .string (⟨#[]⟩ : ByteArray)]) ?_ 2 _ rfl; (with_reducible repeat (first | refine blk_drewN ?_ _ | refine blk_drew ?_ | refine blk_alloc ?_ _)); exact BK386.out) hb); replace HB := bs_ hb; (try clear hb); obtain ⟨hcz89_0, hcz89_1, hcz89_2, hfz89_0, hfz89_1, hfz89_2⟩ := b3_ BK384))
                   refine bodyPost_ret (results_ct rfl _ _ gb384 50 #[.int .i64 0, .int .i64 0, .string (⟨#[]⟩ : ByteArray)] (0, 0) _ rfl (bp3_ (bkx_ BK384.out)) Tryz.underlying50 rfl (by kernel_rfl)) rfl ?_; (exact ⟨by first | rfl | (simp [errW_none, errW_some] <;> rfl) | (simp only [← hji71, ← hji75]; first | rfl | (simp [errW_none, errW_some] <;> rfl)) | (simp [*, errW_none, errW_some] <;> rfl), ab31_⟩)
                 ·rw [if_neg c78] at H
                  exact nn_ H
                ·rw [if_neg c77] at H
                 exact nn_ H
               ·rw [if_neg c76] at H
                exact nn_ H
              ·rw [if_neg c73] at H
               exact nn_ H
             ·rw [if_neg c72] at H
              exact nn_ H
            ·replace c70 := Bool.eq_false_iff.mpr c70
             subst c70; (rw [if_neg (show ¬ (false = true) by decide)] at H)
             by_cases c90 : (wrap64 (bt a0 a1)) = 0
             ·rw [if_pos c90] at H
              have c90b0 : ((wrap64 (bt a0 a1)) == 0) = true := beq_iff_eq.mpr c90; have c90b1 : ((wrap64 (bt a0 a1)) != 0) = false := bne_eq_false_iff_eq.mpr c90; clear c90; replace H := bsi_ H; obtain ⟨t390, A910, H⟩ := H
              try dsimp only at H
              have A91 := am_ A910; clear A910
              by_cases c92 : t390 = true
              ·subst c92
               rw [if_pos rfl] at H; simp only [Option.some.injEq, Prod.mk.injEq] at H; obtain ⟨rfl, rfl, rfl, rfl⟩ := H; have hnb93 := NB386_384.out; have hnc93 := NB384_386.out; have hcz94_0 : wc.cell? ⟨gb386, 0, none⟩ = some (.int .i64 (wrap64 (bt a0 a1))) := bc_ BK386 0; have hcz94_1 := bc_ (v := (.int .i64 0)) BK386 1; have hcz94_2 := bc_ (v := (.string (⟨#[]⟩ : ByteArray))) BK386 2; have hfz94_0 := blk_frozen BK386.out 0; have hfz94_1 := blk_frozen BK386.out 1; have hfz94_2 := blk_frozen BK386.out 2
               go_wp2_with (first | ((with_reducible refine gate_callee (f := 50) rfl ?_); refine goesL_ (some 110) rfl rfl Tryz.func50 (by kernel_rfl) rfl #[.agg #[.int .i64 (wrap64 (bt a0 a1)), .int .i64 0, .string (⟨#[]⟩ : ByteArray)]] rfl (by (try simp only [List.map_toArray, List.map_cons, List.map_nil]); first | done | rfl | (simp only [List.length_drop, List.length_take]; rfl)) ?_; (with_reducible refine (spec_ValueOk.calls (wrap64 (bt a0 a1)) 0 (⟨#[]⟩ : ByteArray) true _ A91.out).mono ?_); rintro e w95 ⟨rfl, hb⟩; refine ⟨_, rfl, ?_⟩; replace BK384 := bkb_ BK384 hb; replace BK386 := bkb_ BK386 hb; replace HB := bs_ hb; (try clear hb); have hcz96_0 : w95.cell? ⟨gb386, 0, none⟩ = some (.int .i64 (wrap64 (bt a0 a1))) := bc_ BK386 0; have hcz96_1 := bc_ (v := (.int .i64 0)) BK386 1; have hcz96_2 := bc_ (v := (.string (⟨#[]⟩ : ByteArray))) BK386 2; have hfz96_0 := blk_frozen BK386.out 0; have hfz96_1 := blk_frozen BK386.out 1; have hfz96_2 := blk_frozen BK386.out 2; obtain ⟨hcz97_0, hcz97_1, hcz97_2, hfz97_0, hfz97_1, hfz97_2⟩ := b3_ BK384))
               refine bodyPost_ret (results_ct rfl _ _ gb384 50 #[.int .i64 (wrap64 (bt a0 a1)), .int .i64 0, .string (⟨#[]⟩ : ByteArray)] (0, 0) _ rfl (bp3_ (bkx_ BK384.out)) Tryz.underlying50 rfl (by kernel_rfl)) rfl ?_; exact ⟨er_, bb_⟩
              ·replace c92 := Bool.eq_false_iff.mpr c92
               subst c92; (rw [if_neg (show ¬ (false = true) by decide)] at H); simp only [Option.some.injEq, Prod.mk.injEq] at H; obtain ⟨rfl, rfl, rfl, rfl⟩ := H; have hnb98 := NB386_384.out; have hnc98 := NB384_386.out; have hcz99_0 : wc.cell? ⟨gb386, 0, none⟩ = some (.int .i64 (wrap64 (bt a0 a1))) := bc_ BK386 0; have hcz99_1 := bc_ (v := (.int .i64 0)) BK386 1; have hcz99_2 := bc_ (v := (.string (⟨#[]⟩ : ByteArray))) BK386 2; have hfz99_0 := blk_frozen BK386.out 0; have hfz99_1 := blk_frozen BK386.out 1; have hfz99_2 := blk_frozen BK386.out 2
               go_wp2_with (first | ((with_reducible refine gate_callee (f := 50) rfl ?_); refine goesL_ (some 110) rfl rfl Tryz.func50 (by kernel_rfl) rfl #[.agg #[.int .i64 (wrap64 (bt a0 a1)), .int .i64 0, .string (⟨#[]⟩ : ByteArray)]] rfl (by (try simp only [List.map_toArray, List.map_cons, List.map_nil]); first | done | rfl | (simp only [List.length_drop, List.length_take]; rfl)) ?_; (with_reducible refine (spec_ValueOk.calls (wrap64 (bt a0 a1)) 0 (⟨#[]⟩ : ByteArray) false _ A91.out).mono ?_); rintro e w100 ⟨rfl, hb⟩; refine ⟨_, rfl, ?_⟩; replace BK384 := bkb_ BK384 hb; replace BK386 := bkb_ BK386 hb; replace HB := bs_ hb; (try clear hb); obtain ⟨hcz101_0, hcz101_1, hcz101_2, hfz101_0, hfz101_1, hfz101_2⟩ := b3_ BK384))
               refine bodyPost_ret (results_ct rfl _ _ gb384 50 #[.int .i64 0, .int .i64 0, .string (⟨#[]⟩ : ByteArray)] (0, 0) _ rfl (bp3_ (bkx_ BK384.out)) Tryz.underlying50 rfl (by kernel_rfl)) rfl ?_; exact ⟨er_, bb_⟩
             ·rw [if_neg c90] at H
              have c90b0 : ((wrap64 (bt a0 a1)) == 0) = false := beq_eq_false_iff_ne.mpr c90; have c90b1 : ((wrap64 (bt a0 a1)) != 0) = true := bne_iff_ne.mpr c90; simp only [Option.some.injEq, Prod.mk.injEq] at H; obtain ⟨rfl, rfl, rfl, rfl⟩ := H; have hnb102 := NB386_384.out; have hnc102 := NB384_386.out; have hcz103_0 : wc.cell? ⟨gb386, 0, none⟩ = some (.int .i64 (wrap64 (bt a0 a1))) := bc_ BK386 0; have hcz103_1 := bc_ (v := (.int .i64 0)) BK386 1; have hcz103_2 := bc_ (v := (.string (⟨#[]⟩ : ByteArray))) BK386 2; have hfz103_0 := blk_frozen BK386.out 0; have hfz103_1 := blk_frozen BK386.out 1; have hfz103_2 := blk_frozen BK386.out 2; obtain ⟨hcz104_0, hcz104_1, hcz104_2, hfz104_0, hfz104_1, hfz104_2⟩ := b3_ BK384
              go_wp2
              refine bodyPost_ret (results_ct rfl _ _ gb384 50 #[.int .i64 0, .int .i64 0, .string (⟨#[]⟩ : ByteArray)] (0, 0) _ rfl (bp3_ (bkx_ BK384.out)) Tryz.underlying50 rfl (by kernel_rfl)) rfl ?_; exact ⟨er_, bb_⟩
   ·rw [if_neg c6] at H
    exact nn_ H
  ·rw [if_neg c5] at H
   exact nn_ H
 ·replace c4 := Bool.eq_false_iff.mpr c4
  subst c4; (rw [if_neg (show ¬ (false = true) by decide)] at H); simp only [Option.some.injEq, Prod.mk.injEq] at H; obtain ⟨rfl, rfl, rfl, rfl⟩ := H
  go_enter Tryz.func27, Tryz.ntmps27
  go_wp2_with (first | ((with_reducible refine gate_dst (N := 4) rfl ?_); (try (refine gate_guard (by rfl) ?_; dsimp only)); refine bx_ 4 #[.int .i64 0, .int .i64 0, .string (⟨#[]⟩ : ByteArray)] 50 ?_; intro gb384 hg w105 hbox hb; have BK384 := am_ (hbox); have GW384 := gw_ hg; have GE384 := gw_ hg; replace HB := bs_ hb; clear hb hbox hg) | ((with_reducible refine gate_callee (f := 37) rfl ?_); refine gsL_ (some 14) Tryz.func37 #[.int .i64 a1, .int .i64 0, .int .i64 (wrap64 ((a0.size : Int) - 1))] ?_; (with_reducible refine (spec_l01In.calls a1 0 (wrap64 ((a0.size : Int) - 1)) false _ A3.out).mono ?_); rintro e w' ⟨rfl, ⟨nd, rfl⟩⟩; refine ⟨_, rfl, ?_⟩; (try (rw [drewN_self w105]; generalize hq_ : World.drewN w105 _ = w105; have n0_ : Aside0 (w105.heap[gb384]? = some (.cells #[.int .i64 0, .int .i64 0, .string (⟨#[]⟩ : ByteArray)] 50 (0, 0))) := ⟨by rw [← hq_]; exact (bkx_ BK384.out)⟩; have n1_ : Aside0 (Below w.heap.size w w105) := ⟨by rw [← hq_]; exact bb_⟩; clear BK384 HB hq_; have BK384 := n0_; have HB := n1_; clear n0_ n1_)); obtain ⟨hcz106_0, hcz106_1, hcz106_2, hfz106_0, hfz106_1, hfz106_2⟩ := b3_ BK384))
  refine bodyPost_ret (results_ct rfl _ _ gb384 50 #[.int .i64 0, .int .i64 0, .string (⟨#[]⟩ : ByteArray)] (0, 0) _ rfl (bp3_ (bkx_ BK384.out)) Tryz.underlying50 rfl (by kernel_rfl)) rfl ?_; exact ⟨er_, bb_⟩
end Go.Proofs.YtoajedijckkjjaaGreatDoor.PFnBagBytes
