-- WRITTEN BY xprint.py, a program of this session over the kit's printer: by nobody's hand
-- PRESSED4 -- PRESSED TWICE3 -- PRESSED TWICE
import Derived.Test.YtoajedijckkjjaaGreatDoorPress
import Derived.Test.YtoajedijckkjjaaGreatDoorPress3
import Derived.Test.YtoajedijckkjjaaGreatDoorPFnBagBytesx0
import Derived.Test.YtoajedijckkjjaaGreatDoorPFnBagBytesx4
import Derived.Test.YtoajedijckkjjaaGreatDoorPFnBagBytesx5
import Derived.Test.YtoajedijckkjjaaGreatDoorPFnBagBytesx2
import Derived.Test.YtoajedijckkjjaaGreatDoorPFnBagBytesx3
namespace Go.Proofs.YtoajedijckkjjaaGreatDoor.PFnBagBytes
open Go.RowKit Go.Proofs.YtoajedijckkjjaaGreatDoorW.PrintWords Go.Proofs.YtoajedijckkjjaaGreatDoorW.PrintLast Go.Proofs.YtoajedijckkjjaaGreatDoorW.PrintMore
attribute [local go_sem] max2_int min2_int max_two min_two max_three min_three max_four min_four
set_option linter.unusedVariables false
set_option linter.unusedSimpArgs false
attribute [local go_sem high] eqA50
/-! ### spec_GetBag: function 9 -/
mutual
def spec_GetBag.j0 : Nat → ByteArray → Bool → Option (Int × (List (S47)) × Bool)
 | 0, _, _ => none
 | k + 1, x0, x19 => if x19 = true then (some (0, ([] : List (S47)), false)) else (if 0 < (x0.size : Int) then (spec_GetBag.l0 k x0 1 (wrap64 (bt x0 0)) ([] : List (S47))) else (none))
def spec_GetBag.l0 : Nat → ByteArray → Int → Int → List (S47) → Option (Int × (List (S47)) × Bool)
 | 0, _, _, _, _ => none
 | k + 1, x0, x5, x393000, x393001 => if x5 < (x0.size : Int) then (spec_GetBag.j2 k x0 x5 (decide ((x393001.length : Int) ≤ 400)) x393000 x393001) else (spec_GetBag.j2 k x0 x5 false x393000 x393001)
def spec_GetBag.j2 : Nat → ByteArray → Int → Bool → Int → List (S47) → Option (Int × (List (S47)) × Bool)
 | 0, _, _, _, _, _ => none
 | k + 1, x0, x5, x34, x393000, x393001 => if x34 = true then ((spec_GetValue.f k x0 x5).bind fun bt394 => (spec_GetBag.l1 k x0 bt394.2.2.2 0 x393000 x393001 ([] : List (S50)) bt394.2.1)) else ((spec_PutBag.f k x393000 x393001).bind fun t393 => (if t393.toList = x0.toList then (some (x393000, x393001, true)) else (some (0, ([] : List (S47)), false))))
def spec_GetBag.l1 : Nat → ByteArray → Int → Int → Int → List (S47) → List (S50) → Int → Option (Int × (List (S47)) × Bool)
 | 0, _, _, _, _, _, _, _ => none
 | k + 1, x0, x5, x9, x393000, x393001, x400000, x400001 => if x9 < x393000 then (if x5 ≥ 0 then ((spec_GetValue.f k x0 x5).bind fun bt400 => (if x400000.length < 4398046511104 then (spec_GetBag.l1 k x0 bt400.2.2.2 (wrap64 (x9 + 1)) x393000 x393001 (x400000 ++ [(⟨bt400.1, bt400.2.1, bt400.2.2.1⟩ : S50)]) x400001) else (none))) else (if x5 < 0 then (some (0, ([] : List (S47)), false)) else (if x393001.length < 4398046511104 then (spec_GetBag.l0 k x0 x5 x393000 (x393001 ++ [(⟨x400000, x400001⟩ : S47)])) else (none)))) else (if x5 < 0 then (some (0, ([] : List (S47)), false)) else (if x393001.length < 4398046511104 then (spec_GetBag.l0 k x0 x5 x393000 (x393001 ++ [(⟨x400000, x400001⟩ : S47)])) else (none)))
end
def spec_GetBag.f (k : Nat) (a0 : ByteArray) : Option (Int × (List (S47)) × Bool) := if a0.toList = ([] : List UInt8) then (spec_GetBag.j0 k a0 true) else (if 0 < (a0.size : Int) then (spec_GetBag.j0 k a0 (decide ((wrap64 (bt a0 0)) > 12))) else (none))
theorem ab32_ {B : Nat} {w W : World} (h : Below B w W := by repeat (first | (with_reducible first | exact HB.out | apply below_alloc | apply pw_below_drewN | apply below_drew1 | refine below_set ?_ GE391.out | refine below_set ?_ GE392.out | refine below_set ?_ GE398.out | refine below_set ?_ GE399.out) | exact HB.out)) : Below B w W := h
theorem ab33_ {B : Nat} {w W : World} (h : Below B w W := by repeat (first | (with_reducible first | exact HB.out | apply below_alloc | apply pw_below_drewN | apply below_drew1 | refine below_set ?_ GE391.out | refine below_set ?_ GE392.out) | exact HB.out)) : Below B w W := h
set_option maxHeartbeats 8000000 in
set_option maxRecDepth 100000 in
theorem spec_GetBag.calls (k : Nat) (a0 : ByteArray) (r1 : Int) (r2 : List (S47)) (r3 : Bool) (w : World) (h : spec_GetBag.f k a0 = some (r1, r2, r3)) :
  Calls Tryz.prog 9 #[.string a0] w fun e w' => ∃ v1_ : Value, e = .returned (.tuple #[.agg #[.int .i64 r1, v1_], .bool r3]) ∧ Kd.S k47 47 w' w.heap.size (fun _ => True) v1_ r2 ∧ Below w.heap.size w w' := by
 have hu26 := Tryz.underlying26
 have hu50 := Tryz.underlying50
 have hu47 := Tryz.underlying47
 have HB := am_ (Below.refl w.heap.size w)
 have H : (if a0.toList = ([] : List UInt8) then (spec_GetBag.j0 k a0 true) else (if 0 < (a0.size : Int) then (spec_GetBag.j0 k a0 (decide ((wrap64 (bt a0 0)) > 12))) else (none))) = some (r1, r2, r3) := h
 clear h
 have HC2 := am_ H
 clear H
 go_enter Tryz.func9, Tryz.ntmps9
 go_upto_region 1 with (first | ((with_reducible refine gate_dst (N := 2) rfl ?_); (try (refine gate_guard (by rfl) ?_; dsimp only)); refine bx_ 2 #[.int .i64 0, .slice none 0 0] 26 ?_; intro gb391 hg w3 hbox hb; have BK391 := am_ (hbox); have GW391 := gw_ hg; have GE391 := gw_ hg; replace HB := bs_ hb; clear hb hbox hg))
 (try simp only [Act.put, List.setIfInBounds_toArray, List.set_cons_zero, List.set_cons_succ])
 go_cut [19] (fun v19 wc => ∃ (kq : Nat) (x19_1 : Bool), v19 = .bool x19_1 ∧ Aside0 (spec_GetBag.j0 kq a0 x19_1 = some (r1, r2, r3)) ∧ Aside0 (kq ≤ k) ∧ Aside0 (wc.heap[gb391]? = some (.cells #[.int .i64 0, (.slice none 0 0)] 26 (0, 0))) ∧ Aside0 (Below w.heap.size w wc))
 case first =>
  have H := HC2.out; clear HC2
  by_cases c4 : a0.toList = ([] : List UInt8)
  ·rw [if_pos c4] at H
   have c4b0 : (a0.toList == ([] : List UInt8)) = true := beq_iff_eq.mpr c4; have c4b1 : (a0.toList != ([] : List UInt8)) = false := bne_eq_false_iff_eq.mpr c4; clear c4; (first | rw [c4b0] | (simp only [i64_w, i32_w]; rw [c4b0]) | skip); have H' := am_ H; clear H
   go_wp2
   go_meet
   case rel => exact ⟨_, (true), rs_, H', ⟨by first | omega | exact Nat.le_refl _⟩, ⟨bkx_ BK391.out⟩, ⟨bb_⟩⟩
  ·rw [if_neg c4] at H
   have c4b0 : (a0.toList == ([] : List UInt8)) = false := beq_eq_false_iff_ne.mpr c4; have c4b1 : (a0.toList != ([] : List UInt8)) = true := bne_iff_ne.mpr c4; (first | rw [c4b0] | (simp only [i64_w, i32_w]; rw [c4b0]) | skip)
   by_cases c5 : 0 < (a0.size : Int)
   ·rw [if_pos c5] at H
    have c5b0 := decide_eq_true c5; have c5b1 : decide (0 < a0.size) = true := decide_eq_true (by omega); clear c5; have H' := am_ H; clear H; have p6 : 0 ≤ (0 : Int) := (by omega); (have q6 : 0 < a0.size := (by have : (0 : Int) < (a0.size : Int) := oa_; omega)); have hx6 : ∀ h : 0 < a0.size, ((a0[0]'h).toNat : Int) = bt a0 0 := bt_at a0 0; clear p6; (have qi6 : (0 < (a0.size : Int)) = True := eq_true (oa_)); replace q6 := eq_true q6
    go_wp2
    go_meet
    case rel => exact ⟨_, (decide ((wrap64 (bt a0 0)) > 12)), rs_, H', ⟨by first | omega | exact Nat.le_refl _⟩, ⟨bkx_ BK391.out⟩, ⟨bb_⟩⟩
   ·rw [if_neg c5] at H
    exact nn_ H
 case rest =>
  clear HC2; (try clear p2); (try clear c4); (try clear c4b0); (try clear c4b1); (try clear c5); (try clear c5b0); (try clear c5b1); (try clear p6); (try clear q6); (try clear hx6); (try clear qi6); (try clear p6); (try clear q6); obtain ⟨kq, x19_1, rfl, HA, HJ1, BK391, HB⟩ := hcut
  cases kq with
  | zero => exact absurd HA.out (by simp [spec_GetBag.j0])
  | succ kj1 =>
   have H := HA.out; clear HA; simp only [spec_GetBag.j0] at H
   by_cases c7 : x19_1 = true
   ·subst c7
    rw [if_pos rfl] at H; simp only [Option.some.injEq, Prod.mk.injEq] at H; obtain ⟨rfl, rfl, rfl⟩ := H; obtain ⟨hcz8_0, hcz8_1, hfz8_0, hfz8_1⟩ := b2_ BK391
    go_wp2
    refine bodyPost_ret (results_ct rfl _ _ gb391 26 #[.int .i64 0, .slice none 0 0] (0, 0) _ rfl (bp2_ (bkx_ BK391.out)) Tryz.underlying26 rfl (by kernel_rfl)) rfl ?_; (exact ⟨_, rr_, by first | exact Kd.S_nil _ _ _ _ _ | exact Kd.N_nil _ _ _ _ _ | exact Kd.V_nil _ _ _ _ _ | exact Kd.Q_nil _ _ _ _ _ | exact Kd.R_nil _ _ _ _ _, by repeat (first | (with_reducible first | exact HB.out | apply below_alloc | apply pw_below_drewN | apply below_drew1 | refine below_set ?_ GE391.out) | exact HB.out)⟩)
   ·replace c7 := Bool.eq_false_iff.mpr c7
    subst c7; (rw [if_neg (show ¬ (false = true) by decide)] at H)
    by_cases c9 : 0 < (a0.size : Int)
    ·rw [if_pos c9] at H
     have c9b0 := decide_eq_true c9; have c9b1 : decide (0 < a0.size) = true := decide_eq_true (by omega); clear c9; have H' := am_ H; clear H; have p10 : 0 ≤ (0 : Int) := (by omega); (have q10 : 0 < a0.size := (by have : (0 : Int) < (a0.size : Int) := oa_; omega)); have hx10 : ∀ h : 0 < a0.size, ((a0[0]'h).toNat : Int) = bt a0 0 := bt_at a0 0; clear p10; (have qi10 : (0 < (a0.size : Int)) = True := eq_true (oa_)); replace q10 := eq_true q10
     go_wp2_with (first | ((with_reducible refine gate_dst (N := 4) rfl ?_); (try (refine gate_guard (by rfl) ?_; dsimp only)); refine bx_ 4 #[.int .i64 0, .slice none 0 0] 26 ?_; intro gb392 hg w11 hbox hb; have BK392 := am_ (hbox); have GW392 := gw_ hg; have GE392 := gw_ hg; have NB391_392 := nl_ hg BK391; have NB392_391 := ng_ hg BK391; replace BK391 := bkb_ BK391 hb; replace HB := bs_ hb; clear hb hbox hg; have hnb12 := NB392_391.out; have hnc12 := NB391_392.out; obtain ⟨hcz13_0, hcz13_1, hfz13_0, hfz13_1⟩ := b2_ BK392))
     go_loopg [5] kj1 (fun kq v5 w' => ∃ (x5_2 : Int) (x392000_2 : Int) (x393001_2 : List (S47)) (u393001 : Value), v5 = .int .i64 x5_2 ∧ Aside0 (spec_GetBag.l0 kq a0 x5_2 (wrap64 (bt a0 0)) x393001_2 = some (r1, r2, r3)) ∧ Aside0 (kq ≤ kj1) ∧ Aside0 (Kd.S k47 47 w' w.heap.size (fun _ => True) u393001 x393001_2) ∧ Aside0 (w'.heap[gb391]? = some (.cells #[.int .i64 x392000_2, (.slice none 0 0)] 26 (0, 0))) ∧ Aside0 (w'.heap[gb392]? = some (.cells #[.int .i64 (wrap64 (bt a0 0)), u393001] 26 (0, 0))) ∧ Aside0 (Below w.heap.size w w'))
     case atStart => exact ⟨(1), (0), (([] : List (S47))), (.slice none 0 0), rs_, H', ⟨Nat.le_refl _⟩, ⟨by first | exact Kd.S_nil _ _ _ _ _ | exact Kd.N_nil _ _ _ _ _ | exact Kd.V_nil _ _ _ _ _ | exact Kd.Q_nil _ _ _ _ _ | exact Kd.R_nil _ _ _ _ _⟩, ⟨(bf2_ NB391_392 (bkx_ BK391.out))⟩, ⟨(bp2_ (bkx_ BK392.out))⟩, ⟨bb_⟩⟩
     case round =>
      clear H'; (try clear c1); (try clear p1); (try clear q1); (try clear hx1); (try clear qi1); (try clear p2); (try clear c4); (try clear c4b0); (try clear c4b1); (try clear c5); (try clear c5b0); (try clear c5b1); (try clear p6); (try clear q6); (try clear hx6); (try clear qi6); (try clear c7); (try clear c9); (try clear c9b0); (try clear c9b1); (try clear p10); (try clear q10); (try clear hx10); (try clear qi10); (try clear c12); (try clear hcz13_0 hcz13_1); (try clear hcz8_0 hcz8_1); (try clear hfz13_0 hfz13_1); (try clear hfz8_0 hfz8_1); (try clear p10); (try clear p2); (try clear p6); (try clear q10); (try clear q6); obtain ⟨x5_2, x392000_2, x393001_2, u393001, rfl, HA, HK2, HO_393001, BK391, BK392, HB⟩ := hrel
      cases gk with
      | zero => exact absurd HA.out (by simp [spec_GetBag.l0])
      | succ k2 =>
       have H := HA.out; clear HA; simp only [spec_GetBag.l0] at H; have HC14 := am_ H; clear H
       go_upto_region 5 with (fail)
       go_cut [34] (fun v34 wc => ∃ (kq : Nat) (x34_13 : Bool), v34 = .bool x34_13 ∧ Aside0 (spec_GetBag.j2 kq a0 x5_2 x34_13 (wrap64 (bt a0 0)) x393001_2 = some (r1, r2, r3)) ∧ Aside0 (kq ≤ k2) ∧ Aside0 (Kd.S k47 47 wc w.heap.size (fun _ => True) u393001 x393001_2) ∧ Aside0 (wc.heap[gb391]? = some (.cells #[.int .i64 x392000_2, (.slice none 0 0)] 26 (0, 0))) ∧ Aside0 (wc.heap[gb392]? = some (.cells #[.int .i64 (wrap64 (bt a0 0)), u393001] 26 (0, 0))) ∧ Aside0 (Below w.heap.size w wc))
       case first =>
        have H := HC14.out; clear HC14
        by_cases c15 : x5_2 < (a0.size : Int)
        ·rw [if_pos c15] at H
         have c15b0 := decide_eq_true c15; clear c15; (first | rw [c15b0] | (simp only [i64_w, i32_w]; rw [c15b0]) | skip); have H' := am_ H; clear H; have hnb16 := NB392_391.out; have hnc16 := NB391_392.out; have hcz17_0 : wr.cell? ⟨gb392, 0, none⟩ = some (.int .i64 (wrap64 (bt a0 0))) := bc_ BK392 0; have hcz17_1 := bc_ (v := (u393001)) BK392 1; have hfz17_0 := blk_frozen BK392.out 0; have hfz17_1 := blk_frozen BK392.out 1; obtain ⟨Ao18, co18, eo18⟩ := Kd.S_slice HO_393001.out; subst eo18
         go_wp2
         go_meet
         case rel => exact ⟨_, (decide ((x393001_2.length : Int) ≤ 400)), rs_, H', ⟨by have := HJ1.out; have := HK2.out; first | omega | exact Nat.le_refl _⟩, ⟨by (with_reducible repeat (first | apply Kd.S_alloc | apply Kd.S_drewN | apply Kd.S_drew)); exact HO_393001.out⟩, ⟨bkx_ BK391.out⟩, ⟨bkx_ BK392.out⟩, ⟨bb_⟩⟩
        ·rw [if_neg c15] at H
         have c15b0 := decide_eq_false c15; clear c15; (first | rw [c15b0] | (simp only [i64_w, i32_w]; rw [c15b0]) | skip); have H' := am_ H; clear H
         go_wp2
         go_meet
         case rel => exact ⟨_, (false), rs_, H', ⟨by have := HJ1.out; have := HK2.out; first | omega | exact Nat.le_refl _⟩, ⟨by (with_reducible repeat (first | apply Kd.S_alloc | apply Kd.S_drewN | apply Kd.S_drew)); exact HO_393001.out⟩, ⟨bkx_ BK391.out⟩, ⟨bkx_ BK392.out⟩, ⟨bb_⟩⟩
       case rest =>
        clear HC14; (try clear c1); (try clear p1); (try clear q1); (try clear hx1); (try clear qi1); (try clear p2); (try clear c4); (try clear c4b0); (try clear c4b1); (try clear c5); (try clear c5b0); (try clear c5b1); (try clear p6); (try clear q6); (try clear hx6); (try clear qi6); (try clear c7); (try clear c9); (try clear c9b0); (try clear c9b1); (try clear p10); (try clear q10); (try clear hx10); (try clear qi10); (try clear c12); (try clear c15); (try clear c15b0); (try clear c16); (try clear hcz13_0 hcz13_1); (try clear hcz17_0 hcz17_1); (try clear hcz8_0 hcz8_1); (try clear hfz13_0 hfz13_1); (try clear hfz17_0 hfz17_1); (try clear hfz8_0 hfz8_1); (try clear p1); (try clear p10); (try clear p2); (try clear p6); (try clear q1); (try clear q10); (try clear q6); obtain ⟨kq, x34_13, rfl, HA, HJ13, HO_393001, BK391, BK392, HB⟩ := hcut
        cases kq with
        | zero => exact absurd HA.out (by simp [spec_GetBag.j2])
        | succ kj13 =>
         have H := HA.out; clear HA; simp only [spec_GetBag.j2] at H
         by_cases c19 : x34_13 = true
         ·subst c19
          rw [if_pos rfl] at H; replace H := bsi_ H; obtain ⟨⟨t394, t395, t396, t397⟩, A200, H⟩ := H
          try dsimp only at H
          have A20 := am_ A200; clear A200; have H' := am_ H; clear H
          go_wp2_with (first | ((with_reducible refine gate_callee (f := 27) rfl ?_); refine gsL_ (some 38) Tryz.func27 #[.string a0, .int .i64 x5_2] ?_; (with_reducible refine (spec_GetValue.calls kj13 a0 x5_2 t394 t395 t396 t397 _ A20.out).mono ?_); rintro e w21 ⟨rfl, hb⟩; refine ⟨_, rfl, ?_⟩; replace HO_393001 := am_ (Kd.S_below (sk_ HO_393001.out) hb); replace BK391 := bkb_ BK391 hb; replace BK392 := bkb_ BK392 hb; replace HB := bs_ hb; (try clear hb)) | ((with_reducible refine gate_dst (N := 6) rfl ?_); (try (refine gate_guard (by rfl) ?_; dsimp only)); refine bx_ 6 #[.int .i64 0, .int .i64 0, .string (⟨#[]⟩ : ByteArray)] 50 ?_; intro gb398 hg w22 hbox hb; have BK398 := am_ (hbox); have GW398 := gw_ hg; have GE398 := gw_ hg; have NB391_398 := nl_ hg BK391; have NB398_391 := ng_ hg BK391; have NB392_398 := nl_ hg BK392; have NB398_392 := ng_ hg BK392; replace HO_393001 := am_ (Kd.S_below (Kd.S_elderB (sk_ HO_393001.out) gb398 (Nat.le_of_eq hg.symm)) hb); replace BK391 := bkb_ BK391 hb; replace BK392 := bkb_ BK392 hb; replace HB := bs_ hb; clear hb hbox hg; have hnb23 := NB398_391.out; have hnc23 := NB391_398.out; have hnb24 := NB398_392.out; have hnc24 := NB392_398.out; obtain ⟨hcz25_0, hcz25_1, hcz25_2, hfz25_0, hfz25_1, hfz25_2⟩ := b3_ BK398) | ((with_reducible refine gate_dst (N := 8) rfl ?_); (try (refine gate_guard (by rfl) ?_; dsimp only)); refine bx_ 8 #[.slice none 0 0, .int .i64 0] 47 ?_; intro gb399 hg w26 hbox hb; have BK399 := am_ (hbox); have GW399 := gw_ hg; have GE399 := gw_ hg; have NB391_399 := am_ ((by rw [hg]; exact Nat.ne_of_lt (blk_lt (g := gb391) (o := .cells #[.int .i64 x392000_2, .slice none 0 0] 26 (0, 0)) (bf3_ NB391_398 (bkx_ BK391.out))) : gb391 ≠ gb399)); have NB399_391 := am_ ((by rw [hg]; exact Nat.ne_of_gt (blk_lt (g := gb391) (o := .cells #[.int .i64 x392000_2, .slice none 0 0] 26 (0, 0)) (bf3_ NB391_398 (bkx_ BK391.out))) : gb399 ≠ gb391)); have NB392_399 := am_ ((by rw [hg]; exact Nat.ne_of_lt (blk_lt (g := gb392) (o := .cells #[.int .i64 (wrap64 (bt a0 0)), u393001] 26 (0, 0)) (bf3_ NB392_398 (bkx_ BK392.out))) : gb392 ≠ gb399)); have NB399_392 := am_ ((by rw [hg]; exact Nat.ne_of_gt (blk_lt (g := gb392) (o := .cells #[.int .i64 (wrap64 (bt a0 0)), u393001] 26 (0, 0)) (bf3_ NB392_398 (bkx_ BK392.out))) : gb399 ≠ gb392)); have NB398_399 := am_ ((by rw [hg]; exact Nat.ne_of_lt (blk_lt (g := gb398) (o := .cells #[.int .i64 t394, .int .i64 t395, .string t396] 50 (0, 0)) (bp3_ (bkx_ BK398.out))) : gb398 ≠ gb399)); have NB399_398 := am_ ((by rw [hg]; exact Nat.ne_of_gt (blk_lt (g := gb398) (o := .cells #[.int .i64 t394, .int .i64 t395, .string t396] 50 (0, 0)) (bp3_ (bkx_ BK398.out))) : gb399 ≠ gb398)); replace HO_393001 := am_ (Kd.S_below (Kd.S_elderB (sk_ (Kd.S_mono (Kd.S_far (p := ⟨gb398, 2, none⟩) (Kd.S_far (p := ⟨gb398, 1, none⟩) (Kd.S_far (p := ⟨gb398, 0, none⟩) (Kd.S_mono HO_393001.out (fun k_ hk => (⟨hk, hk.2⟩ : _ ∧ k_ ≠ gb398))) (fun _ hk => hk.2) (.int .i64 t394)) (fun _ hk => hk.2) (.int .i64 t395)) (fun _ hk => hk.2) (.string t396)) (fun _ h_ => h_.1))) gb399 (Nat.le_of_eq hg.symm)) hb); replace BK391 := am_ (blk_below (g := gb391) (o := .cells #[.int .i64 x392000_2, .slice none 0 0] 26 (0, 0)) (bf3_ NB391_398 (bkx_ BK391.out)) hb); replace BK392 := am_ (blk_below (g := gb392) (o := .cells #[.int .i64 (wrap64 (bt a0 0)), u393001] 26 (0, 0)) (bf3_ NB392_398 (bkx_ BK392.out)) hb); replace BK398 := am_ (blk_below (g := gb398) (o := .cells #[.int .i64 t394, .int .i64 t395, .string t396] 50 (0, 0)) (bp3_ (bkx_ BK398.out)) hb); replace HB := bs_ hb; clear hb hbox hg; have hnb27 := NB399_391.out; have hnc27 := NB391_399.out; have hnb28 := NB399_392.out; have hnc28 := NB392_399.out; have hnb29 := NB399_398.out; have hnc29 := NB398_399.out; obtain ⟨hcz30_0, hcz30_1, hfz30_0, hfz30_1⟩ := b2_ BK399))
          go_loopg [5, 9] kj13 (fun kq v5 v9 w' => ∃ (x5_4 : Int) (x9_4 : Int) (x400000_4 : List (S50)) (u400000 : Value), v5 = .int .i64 x5_4 ∧ v9 = .int .i64 x9_4 ∧ Aside0 (spec_GetBag.l1 kq a0 x5_4 x9_4 (wrap64 (bt a0 0)) x393001_2 x400000_4 t395 = some (r1, r2, r3)) ∧ Aside0 (kq ≤ kj13) ∧ Aside0 (Kd.S k47 47 w' w.heap.size (fun k_ => some k_ ≠ (u400000 : Value).ownBlock ∧ k_ ≠ gb398 ∧ k_ ≠ gb399) u393001 x393001_2) ∧ Aside0 (Kd.R k50 50 w' w.heap.size (fun k_ => k_ ≠ gb398) u400000 x400000_4) ∧ Aside0 (w'.heap[gb391]? = some (.cells #[.int .i64 x392000_2, (.slice none 0 0)] 26 (0, 0))) ∧ Aside0 (w'.heap[gb392]? = some (.cells #[.int .i64 (wrap64 (bt a0 0)), u393001] 26 (0, 0))) ∧ Aside0 (w'.heap[gb398]? = some (.cells #[.int .i64 t394, .int .i64 t395, .string t396] 50 (0, 0))) ∧ Aside0 (w'.heap[gb399]? = some (.cells #[u400000, .int .i64 t395] 47 (0, 0))) ∧ Aside0 (Below w.heap.size w w'))
          case atStart => exact ⟨(t397), (0), (([] : List (S50))), (.slice none 0 0), rs_, rs_, H', ⟨Nat.le_refl _⟩, ⟨by (with_reducible repeat (first | apply Kd.S_alloc | apply Kd.S_drewN | apply Kd.S_drew)); exact Kd.S_mono (Kd.S_far (p := ⟨gb399, 1, none⟩) (Kd.S_far (p := ⟨gb399, 0, none⟩) (Kd.S_mono HO_393001.out (fun k_ hk => (⟨hk, hk.2⟩ : _ ∧ k_ ≠ gb399))) (fun _ hk => hk.2) (.slice none 0 0)) (fun _ hk => hk.2) (.int .i64 t395)) (fun _ hk => ⟨(by simp [Value.ownBlock]), ⟨hk.1.1.2, hk.1.2⟩⟩)⟩, ⟨by first | exact Kd.R_nil _ _ _ _ _ | exact Kd.N_nil _ _ _ _ _ | exact Kd.V_nil _ _ _ _ _ | exact Kd.Q_nil _ _ _ _ _ | exact Kd.S_nil _ _ _ _ _⟩, ⟨(bf2_ NB391_399 (bkx_ BK391.out))⟩, ⟨(bf2_ NB392_399 (bkx_ BK392.out))⟩, ⟨(bf2_ NB398_399 (bkx_ BK398.out))⟩, ⟨(bp2_ (bkx_ BK399.out))⟩, ⟨bb_⟩⟩
          case round =>
           clear H'; (try clear c1); (try clear p1); (try clear q1); (try clear hx1); (try clear qi1); (try clear c2); (try clear p2); (try clear c4); (try clear c4b0); (try clear c4b1); (try clear c5); (try clear c5b0); (try clear c5b1); (try clear p6); (try clear q6); (try clear hx6); (try clear qi6); (try clear c7); (try clear c9); (try clear c9b0); (try clear c9b1); (try clear p10); (try clear q10); (try clear hx10); (try clear qi10); (try clear c12); (try clear c15); (try clear c15b0); (try clear c16); (try clear c19); (try clear c23); (try clear c24); (try clear c27); (try clear c28); (try clear c29); (try clear hcz13_0 hcz13_1); (try clear hcz17_0 hcz17_1); (try clear hcz25_0 hcz25_1 hcz25_2); (try clear hcz30_0 hcz30_1); (try clear hcz8_0 hcz8_1); (try clear hfz13_0 hfz13_1); (try clear hfz17_0 hfz17_1); (try clear hfz25_0 hfz25_1 hfz25_2); (try clear hfz30_0 hfz30_1); (try clear hfz8_0 hfz8_1); (try clear p1); (try clear p10); (try clear p2); (try clear p6); (try clear q1); (try clear q10); (try clear q6); obtain ⟨x5_4, x9_4, x400000_4, u400000, rfl, rfl, HA, HK4, HO_393001, HO_400000, BK391, BK392, BK398, BK399, HB⟩ := hrel
           cases gk with
           | zero => exact absurd HA.out (by simp [spec_GetBag.l1])
           | succ k4 =>
            have H := HA.out; clear HA; simp only [spec_GetBag.l1] at H
            by_cases c31 : x9_4 < (wrap64 (bt a0 0))
            ·rw [if_pos c31] at H
             have c31b0 := decide_eq_true c31; clear c31
             by_cases c32 : x5_4 ≥ 0
             ·rw [if_pos c32] at H
              have c32b0 := decide_eq_true c32; clear c32; replace H := bsi_ H; obtain ⟨⟨t400, t401, t402, t403⟩, A330, H⟩ := H
              try dsimp only at H
              have A33 := am_ A330; clear A330
              by_cases c34 : x400000_4.length < 4398046511104
              ·rw [if_pos c34] at H
               have LMc34 := am_ c34; clear c34; obtain ⟨y405, hy405⟩ : ∃ y_ : List (S50), y_ = (x400000_4 ++ [(⟨t400, t401, t402⟩ : S50)]) := ⟨_, rfl⟩; (replace H : (spec_GetBag.l1 k4 a0 t403 (wrap64 (x9_4 + 1)) (wrap64 (bt a0 0)) x393001_2 y405 t395) = some (r1, r2, r3) := by first | (rw [hy405]; with_reducible exact H) | (have H2_ := (Option.bind_some _ _).symm.trans H; rw [hy405]; with_reducible exact H2_) | (have H2_ := (Option.bind_some _ _).symm.trans H; with_reducible exact H2_) | with_reducible exact H | (rw [hy405]; exact H) | exact H); have Ny405 := am_ hy405; clear hy405; have H' := am_ H; clear H; have hnb35 := NB392_391.out; have hnc35 := NB391_392.out; have hnb36 := NB392_398.out; have hnc36 := NB398_392.out; have hnb37 := NB392_399.out; have hnc37 := NB399_392.out; have hcz38_0 : wr.cell? ⟨gb392, 0, none⟩ = some (.int .i64 (wrap64 (bt a0 0))) := bc_ BK392 0; have hcz38_1 := bc_ (v := (u393001)) BK392 1; have hfz38_0 := blk_frozen BK392.out 0; have hfz38_1 := blk_frozen BK392.out 1
               go_wp2_with (first | ((with_reducible refine gate_callee (f := 27) rfl ?_); refine gsL_ (some 58) Tryz.func27 #[.string a0, .int .i64 x5_4] ?_; (with_reducible refine (spec_GetValue.calls k4 a0 x5_4 t400 t401 t402 t403 _ A33.out).mono ?_); rintro e w39 ⟨rfl, hb⟩; refine ⟨_, rfl, ?_⟩; replace HO_393001 := am_ (Kd.S_below (sk_ HO_393001.out) hb); replace HO_400000 := am_ (Kd.R_below (rk_ HO_400000.out) hb); replace BK391 := bkb_ BK391 hb; replace BK392 := bkb_ BK392 hb; replace BK398 := bkb_ BK398 hb; replace BK399 := bkb_ BK399 hb; replace HB := bs_ hb; (try clear hb)) | ((with_reducible refine gate_dst (N := 10) rfl ?_); (try (refine gate_guard (by rfl) ?_; dsimp only)); refine bx_ 10 #[.int .i64 0, .int .i64 0, .string (⟨#[]⟩ : ByteArray)] 50 ?_; intro gb404 hg w40 hbox hb; have BK404 := am_ (hbox); have GW404 := gw_ hg; have GE404 := gw_ hg; have NB391_404 := nl_ hg BK391; have NB404_391 := ng_ hg BK391; have NB392_404 := nl_ hg BK392; have NB404_392 := ng_ hg BK392; have NB398_404 := nl_ hg BK398; have NB404_398 := ng_ hg BK398; have NB399_404 := nl_ hg BK399; have NB404_399 := ng_ hg BK399; replace HO_393001 := am_ (Kd.S_below (Kd.S_elderB (sk_ HO_393001.out) gb404 (Nat.le_of_eq hg.symm)) hb); replace HO_400000 := am_ (Kd.R_below (Kd.R_elderB (rk_ HO_400000.out) gb404 (Nat.le_of_eq hg.symm)) hb); replace BK391 := bkb_ BK391 hb; replace BK392 := bkb_ BK392 hb; replace BK398 := bkb_ BK398 hb; replace BK399 := bkb_ BK399 hb; replace HB := bs_ hb; clear hb hbox hg; have hnb41 := NB404_391.out; have hnc41 := NB391_404.out; have hnb42 := NB404_392.out; have hnc42 := NB392_404.out; have hnb43 := NB404_398.out; have hnc43 := NB398_404.out; have hnb44 := NB404_399.out; have hnc44 := NB399_404.out; obtain ⟨hcz45_0, hcz45_1, hcz45_2, hfz45_0, hfz45_1, hfz45_2⟩ := b3_ BK404; have hnb46 := NB399_391.out; have hnc46 := NB391_399.out; have hnb47 := NB399_398.out; have hnc47 := NB398_399.out; obtain ⟨hcz48_0, hcz48_1, hfz48_0, hfz48_1⟩ := b2_ BK399) | ((with_reducible refine gate_builtin (b := .append) (xs := #[.tmp 62, .tmp 64]) rfl ?_); (try (refine gate_guard (by rfl) ?_; dsimp only)); at_builtin; refine Kd.R_append k50 (w0 := w) w.heap.size rfl (.tmp 62) (.tmp 64) 45 50 (.agg #[(.int .i64 0), (.int .i64 0), (.string ⟨#[]⟩)]) 32 rfl Tryz.underlying45 info50 rfl (by decide) (by omega) u400000 x400000_4 (⟨t400, t401, t402⟩ : S50) [.int .i64 t400, .int .i64 t401, .string t402] (fun k_ => k_ ≠ gb398 ∧ k_ ≠ gb404) (fun _ => False) rfl (by first | (go_simp; done) | (go_simp; rfl)) ?aP (fun _ hk => hk.elim) ?aF ?aO ?aB ?aS ?aL ?_; (case aP => exact k50_mkM _ _ _ (⟨t400, t401, t402⟩ : S50)); (case aB => exact bb_); (case aF => exact (fun k_ hk => ⟨Kd.freshB (g := gb398) (o := .cells #[.int .i64 t394, .int .i64 t395, .string t396] 50 (0, 0)) (bf3_ NB398_404 (bkx_ BK398.out)) k_ hk, Kd.freshB (g := gb404) (o := .cells #[.int .i64 t400, .int .i64 t401, .string t402] 50 (0, 0)) (bp3_ (bkx_ BK404.out)) k_ hk⟩)); (case aO => exact (rk_ (Kd.R_mono (Kd.R_far (p := ⟨gb404, 2, none⟩) (Kd.R_far (p := ⟨gb404, 1, none⟩) (Kd.R_far (p := ⟨gb404, 0, none⟩) (Kd.R_mono HO_400000.out (fun k_ hk => (⟨hk, hk.2⟩ : _ ∧ k_ ≠ gb404))) (fun _ hk => hk.2) (.int .i64 t400)) (fun _ hk => hk.2) (.int .i64 t401)) (fun _ hk => hk.2) (.string t402)) (fun _ hk => ⟨hk.1.1, hk.1.2⟩)))); (case aS => exact (below_size bb_)); (case aL => have := LMc34.out; omega); intro v406 w49 ho hb hg hat; rw [← Ny405.out] at ho; have HO407 := am_ (ho); replace HO_393001 := am_ (Kd.S_after (ok := (fun k_ => k_ ≠ gb398 ∧ k_ ≠ gb399 ∧ k_ ≠ gb404)) (sk_ (Kd.S_mono (Kd.S_far (p := ⟨gb404, 2, none⟩) (Kd.S_far (p := ⟨gb404, 1, none⟩) (Kd.S_far (p := ⟨gb404, 0, none⟩) (Kd.S_mono HO_393001.out (fun k_ hk => (⟨hk, hk.2⟩ : _ ∧ k_ ≠ gb404))) (fun _ hk => hk.2) (.int .i64 t400)) (fun _ hk => hk.2) (.int .i64 t401)) (fun _ hk => hk.2) (.string t402)) (fun _ hk => ⟨⟨hk.1.1.2.1, ⟨hk.1.1.2.2, hk.1.2⟩⟩, hk.1.1.1⟩))) hg hat); replace BK391 := am_ (blk_grown (g := gb391) (o := .cells #[.int .i64 x392000_2, .slice none 0 0] 26 (0, 0)) (bf3_ NB391_404 (bkx_ BK391.out)) hg (Kd.R_ne HO_400000.out BK391.out (by decide))); replace BK392 := am_ (blk_grown (g := gb392) (o := .cells #[.int .i64 (wrap64 (bt a0 0)), u393001] 26 (0, 0)) (bf3_ NB392_404 (bkx_ BK392.out)) hg (Kd.R_ne HO_400000.out BK392.out (by decide))); replace BK398 := am_ (blk_grown (g := gb398) (o := .cells #[.int .i64 t394, .int .i64 t395, .string t396] 50 (0, 0)) (bf3_ NB398_404 (bkx_ BK398.out)) hg (Kd.R_away HO_400000.out (fun _ hk => hk.1))); replace BK399 := am_ (blk_grown (g := gb399) (o := .cells #[u400000, .int .i64 t395] 47 (0, 0)) (bf3_ NB399_404 (bkx_ BK399.out)) hg (Kd.R_ne HO_400000.out BK399.out (by decide))); replace BK404 := am_ (blk_grown (g := gb404) (o := .cells #[.int .i64 t400, .int .i64 t401, .string t402] 50 (0, 0)) (bp3_ (bkx_ BK404.out)) hg (Kd.R_away HO_400000.out (fun _ hk => hk.2))); replace HB := am_ (hb); clear HO_400000; clear ho hb hg hat; obtain ⟨Ao50, co50, eo50⟩ := Kd.R_slice HO407.out; subst eo50; obtain ⟨hcz51_0, hcz51_1, hfz51_0, hfz51_1⟩ := b2_ BK399))
               go_roundg k4
               case measure => have := HJ1.out; have := HK2.out; have := HJ13.out; have := HK4.out; omega
               case rel => exact ⟨(t403), (wrap64 (x9_4 + 1)), (y405), (.slice Ao50 y405.length co50), rs_, rs_, H', ⟨by have := HJ1.out; have := HK2.out; have := HJ13.out; have := HK4.out; omega⟩, ⟨by (with_reducible repeat (first | apply Kd.S_alloc | apply Kd.S_drewN | apply Kd.S_drew)); exact Kd.S_mono (Kd.S_far (p := ⟨gb399, 0, none⟩) (Kd.S_mono HO_393001.out (fun k_ hk => (⟨hk, hk.1.2.1⟩ : _ ∧ k_ ≠ gb399))) (fun _ hk => hk.2) (.slice Ao50 y405.length co50)) (fun _ hk => ⟨hk.1.2, ⟨hk.1.1.1, hk.1.1.2.1⟩⟩)⟩, ⟨by (with_reducible repeat (first | apply Kd.R_alloc | apply Kd.R_drewN | apply Kd.R_drew)); exact Kd.R_mono (Kd.R_far (p := ⟨gb399, 0, none⟩) (Kd.R_types HO407.out BK399.out (by decide)) (fun _ hk => hk.2) (.slice Ao50 y405.length co50)) (fun _ hk => hk.1.1)⟩, ⟨(bf1_ NB391_399 (bkx_ BK391.out))⟩, ⟨(bf1_ NB392_399 (bkx_ BK392.out))⟩, ⟨(bf1_ NB398_399 (bkx_ BK398.out))⟩, ⟨by (with_reducible repeat (first | refine blk_drewN ?_ _ | refine blk_drew ?_ | refine blk_alloc ?_ _)); refine blk_put (cs := #[u400000, .int .i64 t395]) ?_ 0 _ rfl; (with_reducible repeat (first | refine blk_drewN ?_ _ | refine blk_drew ?_ | refine blk_alloc ?_ _)); exact BK399.out⟩, ⟨bb_⟩⟩
              ·rw [if_neg c34] at H
               exact nn_ H
             ·rw [if_neg c32] at H
              have c32b0 := decide_eq_false c32; clear c32
              by_cases c52 : x5_4 < 0
              ·rw [if_pos c52] at H
               have c52b0 := decide_eq_true c52; clear c52; simp only [Option.some.injEq, Prod.mk.injEq] at H; obtain ⟨rfl, rfl, rfl⟩ := H; have hnb53 := NB392_391.out; have hnc53 := NB391_392.out; have hnb54 := NB392_398.out; have hnc54 := NB398_392.out; have hnb55 := NB392_399.out; have hnc55 := NB399_392.out; have hcz56_0 : wr.cell? ⟨gb392, 0, none⟩ = some (.int .i64 (wrap64 (bt a0 0))) := bc_ BK392 0; have hcz56_1 := bc_ (v := (u393001)) BK392 1; have hfz56_0 := blk_frozen BK392.out 0; have hfz56_1 := blk_frozen BK392.out 1; have hnb57 := NB391_398.out; have hnc57 := NB398_391.out; have hnb58 := NB391_399.out; have hnc58 := NB399_391.out; obtain ⟨hcz59_0, hcz59_1, hfz59_0, hfz59_1⟩ := b2_ BK391
               go_wp2
               refine bodyPost_ret (results_ct rfl _ _ gb391 26 #[.int .i64 0, .slice none 0 0] (0, 0) _ rfl (bp2_ (bkx_ BK391.out)) Tryz.underlying26 rfl (by kernel_rfl)) rfl ?_; (exact ⟨_, rr_, by first | exact Kd.S_nil _ _ _ _ _ | exact Kd.N_nil _ _ _ _ _ | exact Kd.V_nil _ _ _ _ _ | exact Kd.Q_nil _ _ _ _ _ | exact Kd.R_nil _ _ _ _ _, ab32_⟩)
              ·rw [if_neg c52] at H
               have c52b0 := decide_eq_false c52; clear c52
               by_cases c60 : x393001_2.length < 4398046511104
               ·rw [if_pos c60] at H
                have LMc60 := am_ c60; clear c60; obtain ⟨y408, hy408⟩ : ∃ y_ : List (S47), y_ = (x393001_2 ++ [(⟨x400000_4, t395⟩ : S47)]) := ⟨_, rfl⟩; (replace H : (spec_GetBag.l0 k4 a0 x5_4 (wrap64 (bt a0 0)) y408) = some (r1, r2, r3) := by first | (rw [hy408]; with_reducible exact H) | (have H2_ := (Option.bind_some _ _).symm.trans H; rw [hy408]; with_reducible exact H2_) | (have H2_ := (Option.bind_some _ _).symm.trans H; with_reducible exact H2_) | with_reducible exact H | (rw [hy408]; exact H) | exact H); have Ny408 := am_ hy408; clear hy408; have H' := am_ H; clear H; have hnb61 := NB392_391.out; have hnc61 := NB391_392.out; have hnb62 := NB392_398.out; have hnc62 := NB398_392.out; have hnb63 := NB392_399.out; have hnc63 := NB399_392.out; have hcz64_0 : wr.cell? ⟨gb392, 0, none⟩ = some (.int .i64 (wrap64 (bt a0 0))) := bc_ BK392 0; have hcz64_1 := bc_ (v := (u393001)) BK392 1; have hfz64_0 := blk_frozen BK392.out 0; have hfz64_1 := blk_frozen BK392.out 1; have hnb65 := NB399_391.out; have hnc65 := NB391_399.out; have hnb66 := NB399_398.out; have hnc66 := NB398_399.out; obtain ⟨hcz67_0, hcz67_1, hfz67_0, hfz67_1⟩ := b2_ BK399; obtain ⟨Ao69, co69, eo69⟩ := Kd.R_slice HO_400000.out; subst eo69
                go_wp2_with (first | ((with_reducible refine gate_builtin (b := .append) (xs := #[.tmp 72, .tmp 74]) rfl ?_); (try (refine gate_guard (by rfl) ?_; dsimp only)); at_builtin; refine Kd.S_append k47 (w0 := w) w.heap.size rfl (.tmp 72) (.tmp 74) 24 47 (.agg #[(.slice none 0 0), (.int .i64 0)]) 32 rfl Tryz.underlying24 info47 rfl (by decide) (by omega) u393001 x393001_2 (⟨x400000_4, t395⟩ : S47) [.slice Ao69 x400000_4.length co69, .int .i64 t395] (fun k_ => k_ ≠ gb398 ∧ k_ ≠ gb399) (fun k_ => some k_ = (.slice Ao69 x400000_4.length co69 : Value).ownBlock) rfl rfl ?aP (fun k_ hk_ => ((Kd.R_mono (ok' := fun k_ => ((fun k_ => k_ ≠ gb398 ∧ k_ ≠ gb399)) k_ ∧ some k_ ≠ (u393001 : Value).ownBlock) (Kd.R_types (Kd.R_apart' (HO_400000.out) (Kd.S_typed HO_393001.out) (by decide)) BK399.out (by decide)) (fun k_ hk => ⟨⟨hk.1.1, hk.2⟩, hk.1.2⟩))).1 k_ hk_.symm) ?aF ?aO ?aB ?aS ?aL ?_; (case aP => exact k47_mkM _ _ _ (⟨x400000_4, t395⟩ : S47) (Kd.R_mono (Kd.R_tight rfl (Kd.R_mono (ok' := fun k_ => ((fun k_ => k_ ≠ gb398 ∧ k_ ≠ gb399)) k_ ∧ some k_ ≠ (u393001 : Value).ownBlock) (Kd.R_types (Kd.R_apart' (HO_400000.out) (Kd.S_typed HO_393001.out) (by decide)) BK399.out (by decide)) (fun k_ hk => ⟨⟨hk.1.1, hk.2⟩, hk.1.2⟩))) (fun _ h_ => h_))); (case aB => exact bb_); (case aF => exact (fun k_ hk => ⟨Kd.freshB (g := gb398) (o := .cells #[.int .i64 t394, .int .i64 t395, .string t396] 50 (0, 0)) (bkx_ BK398.out) k_ hk, Kd.freshB (g := gb399) (o := .cells #[.slice Ao69 x400000_4.length co69, .int .i64 t395] 47 (0, 0)) (bkx_ BK399.out) k_ hk⟩)); (case aO => exact (sk_ (Kd.S_mono HO_393001.out (fun k_ hk => ⟨⟨hk.2.1, hk.2.2⟩, fun e_ => hk.1 e_⟩)))); (case aS => exact (below_size bb_)); (case aL => have := LMc60.out; omega); intro v409 w68 ho hb hg hat; rw [← Ny408.out] at ho; have HO410 := am_ (ho); replace BK391 := am_ (blk_grown (g := gb391) (o := .cells #[.int .i64 x392000_2, .slice none 0 0] 26 (0, 0)) (bkx_ BK391.out) hg (Kd.S_ne HO_393001.out BK391.out (by decide))); replace BK392 := am_ (blk_grown (g := gb392) (o := .cells #[.int .i64 (wrap64 (bt a0 0)), u393001] 26 (0, 0)) (bkx_ BK392.out) hg (Kd.S_ne HO_393001.out BK392.out (by decide))); replace BK398 := am_ (blk_grown (g := gb398) (o := .cells #[.int .i64 t394, .int .i64 t395, .string t396] 50 (0, 0)) (bkx_ BK398.out) hg (Kd.S_ne HO_393001.out BK398.out (by decide))); replace BK399 := am_ (blk_grown (g := gb399) (o := .cells #[.slice Ao69 x400000_4.length co69, .int .i64 t395] 47 (0, 0)) (bkx_ BK399.out) hg (Kd.S_away HO_393001.out (fun _ hk => hk.2.2))); replace HB := am_ (hb); clear HO_393001 HO_400000; clear ho hb hg hat; obtain ⟨Ao70, co70, eo70⟩ := Kd.S_slice HO410.out; subst eo70; have hcz71_0 : w68.cell? ⟨gb392, 0, none⟩ = some (.int .i64 (wrap64 (bt a0 0))) := bc_ BK392 0; have hcz71_1 := bc_ (v := (u393001)) BK392 1; have hfz71_0 := blk_frozen BK392.out 0; have hfz71_1 := blk_frozen BK392.out 1))
                go_roundg k4
                case measure => have := HJ1.out; have := HK2.out; have := HJ13.out; have := HK4.out; omega
                case rel => exact ⟨(x5_4), (x392000_2), (y408), (.slice Ao70 y408.length co70), rs_, H', ⟨by have := HJ1.out; have := HK2.out; have := HJ13.out; have := HK4.out; omega⟩, ⟨by (with_reducible repeat (first | apply Kd.S_alloc | apply Kd.S_drewN | apply Kd.S_drew)); exact Kd.S_mono (Kd.S_far (p := ⟨gb392, 1, none⟩) (Kd.S_types HO410.out BK392.out (by decide)) (fun _ hk => hk.2) (.slice Ao70 y408.length co70)) (fun _ hk => trivial)⟩, ⟨(bf1_ NB391_392 (bkx_ BK391.out))⟩, ⟨by (with_reducible repeat (first | refine blk_drewN ?_ _ | refine blk_drew ?_ | refine blk_alloc ?_ _)); refine blk_put (cs := #[.int .i64 (wrap64 (bt a0 0)), u393001]) ?_ 1 _ rfl; (with_reducible repeat (first | refine blk_drewN ?_ _ | refine blk_drew ?_ | refine blk_alloc ?_ _)); exact BK392.out⟩, ⟨bb_⟩⟩
               ·rw [if_neg c60] at H
                exact nn_ H
            ·rw [if_neg c31] at H
             have c31b0 := decide_eq_false c31; clear c31
             by_cases c72 : x5_4 < 0
             ·rw [if_pos c72] at H
              have c72b0 := decide_eq_true c72; clear c72; simp only [Option.some.injEq, Prod.mk.injEq] at H; obtain ⟨rfl, rfl, rfl⟩ := H; have hnb73 := NB392_391.out; have hnc73 := NB391_392.out; have hnb74 := NB392_398.out; have hnc74 := NB398_392.out; have hnb75 := NB392_399.out; have hnc75 := NB399_392.out; have hcz76_0 : wr.cell? ⟨gb392, 0, none⟩ = some (.int .i64 (wrap64 (bt a0 0))) := bc_ BK392 0; have hcz76_1 := bc_ (v := (u393001)) BK392 1; have hfz76_0 := blk_frozen BK392.out 0; have hfz76_1 := blk_frozen BK392.out 1; have hnb77 := NB391_398.out; have hnc77 := NB398_391.out; have hnb78 := NB391_399.out; have hnc78 := NB399_391.out; obtain ⟨hcz79_0, hcz79_1, hfz79_0, hfz79_1⟩ := b2_ BK391
              go_wp2
              refine bodyPost_ret (results_ct rfl _ _ gb391 26 #[.int .i64 0, .slice none 0 0] (0, 0) _ rfl (bp2_ (bkx_ BK391.out)) Tryz.underlying26 rfl (by kernel_rfl)) rfl ?_; (exact ⟨_, rr_, by first | exact Kd.S_nil _ _ _ _ _ | exact Kd.N_nil _ _ _ _ _ | exact Kd.V_nil _ _ _ _ _ | exact Kd.Q_nil _ _ _ _ _ | exact Kd.R_nil _ _ _ _ _, ab32_⟩)
             ·rw [if_neg c72] at H
              have c72b0 := decide_eq_false c72; clear c72
              by_cases c80 : x393001_2.length < 4398046511104
              ·rw [if_pos c80] at H
               have LMc80 := am_ c80; clear c80; obtain ⟨y411, hy411⟩ : ∃ y_ : List (S47), y_ = (x393001_2 ++ [(⟨x400000_4, t395⟩ : S47)]) := ⟨_, rfl⟩; (replace H : (spec_GetBag.l0 k4 a0 x5_4 (wrap64 (bt a0 0)) y411) = some (r1, r2, r3) := by first | (rw [hy411]; with_reducible exact H) | (have H2_ := (Option.bind_some _ _).symm.trans H; rw [hy411]; with_reducible exact H2_) | (have H2_ := (Option.bind_some _ _).symm.trans H; with_reducible exact H2_) | with_reducible exact H | (rw [hy411]; exact H) | exact H); have Ny411 := am_ hy411; clear hy411; have H' := am_ H; clear H; have hnb81 := NB392_391.out; have hnc81 := NB391_392.out; have hnb82 := NB392_398.out; have hnc82 := NB398_392.out; have hnb83 := NB392_399.out; have hnc83 := NB399_392.out; have hcz84_0 : wr.cell? ⟨gb392, 0, none⟩ = some (.int .i64 (wrap64 (bt a0 0))) := bc_ BK392 0; have hcz84_1 := bc_ (v := (u393001)) BK392 1; have hfz84_0 := blk_frozen BK392.out 0; have hfz84_1 := blk_frozen BK392.out 1; have hnb85 := NB399_391.out; have hnc85 := NB391_399.out; have hnb86 := NB399_398.out; have hnc86 := NB398_399.out; obtain ⟨hcz87_0, hcz87_1, hfz87_0, hfz87_1⟩ := b2_ BK399; obtain ⟨Ao89, co89, eo89⟩ := Kd.R_slice HO_400000.out; subst eo89
               go_wp2_with (first | ((with_reducible refine gate_builtin (b := .append) (xs := #[.tmp 72, .tmp 74]) rfl ?_); (try (refine gate_guard (by rfl) ?_; dsimp only)); at_builtin; refine Kd.S_append k47 (w0 := w) w.heap.size rfl (.tmp 72) (.tmp 74) 24 47 (.agg #[(.slice none 0 0), (.int .i64 0)]) 32 rfl Tryz.underlying24 info47 rfl (by decide) (by omega) u393001 x393001_2 (⟨x400000_4, t395⟩ : S47) [.slice Ao89 x400000_4.length co89, .int .i64 t395] (fun k_ => k_ ≠ gb398 ∧ k_ ≠ gb399) (fun k_ => some k_ = (.slice Ao89 x400000_4.length co89 : Value).ownBlock) rfl rfl ?aP (fun k_ hk_ => ((Kd.R_mono (ok' := fun k_ => ((fun k_ => k_ ≠ gb398 ∧ k_ ≠ gb399)) k_ ∧ some k_ ≠ (u393001 : Value).ownBlock) (Kd.R_types (Kd.R_apart' (HO_400000.out) (Kd.S_typed HO_393001.out) (by decide)) BK399.out (by decide)) (fun k_ hk => ⟨⟨hk.1.1, hk.2⟩, hk.1.2⟩))).1 k_ hk_.symm) ?aF ?aO ?aB ?aS ?aL ?_; (case aP => exact k47_mkM _ _ _ (⟨x400000_4, t395⟩ : S47) (Kd.R_mono (Kd.R_tight rfl (Kd.R_mono (ok' := fun k_ => ((fun k_ => k_ ≠ gb398 ∧ k_ ≠ gb399)) k_ ∧ some k_ ≠ (u393001 : Value).ownBlock) (Kd.R_types (Kd.R_apart' (HO_400000.out) (Kd.S_typed HO_393001.out) (by decide)) BK399.out (by decide)) (fun k_ hk => ⟨⟨hk.1.1, hk.2⟩, hk.1.2⟩))) (fun _ h_ => h_))); (case aB => exact bb_); (case aF => exact (fun k_ hk => ⟨Kd.freshB (g := gb398) (o := .cells #[.int .i64 t394, .int .i64 t395, .string t396] 50 (0, 0)) (bkx_ BK398.out) k_ hk, Kd.freshB (g := gb399) (o := .cells #[.slice Ao89 x400000_4.length co89, .int .i64 t395] 47 (0, 0)) (bkx_ BK399.out) k_ hk⟩)); (case aO => exact (sk_ (Kd.S_mono HO_393001.out (fun k_ hk => ⟨⟨hk.2.1, hk.2.2⟩, fun e_ => hk.1 e_⟩)))); (case aS => exact (below_size bb_)); (case aL => have := LMc80.out; omega); intro v412 w88 ho hb hg hat; rw [← Ny411.out] at ho; have HO413 := am_ (ho); replace BK391 := am_ (blk_grown (g := gb391) (o := .cells #[.int .i64 x392000_2, .slice none 0 0] 26 (0, 0)) (bkx_ BK391.out) hg (Kd.S_ne HO_393001.out BK391.out (by decide))); replace BK392 := am_ (blk_grown (g := gb392) (o := .cells #[.int .i64 (wrap64 (bt a0 0)), u393001] 26 (0, 0)) (bkx_ BK392.out) hg (Kd.S_ne HO_393001.out BK392.out (by decide))); replace BK398 := am_ (blk_grown (g := gb398) (o := .cells #[.int .i64 t394, .int .i64 t395, .string t396] 50 (0, 0)) (bkx_ BK398.out) hg (Kd.S_ne HO_393001.out BK398.out (by decide))); replace BK399 := am_ (blk_grown (g := gb399) (o := .cells #[.slice Ao89 x400000_4.length co89, .int .i64 t395] 47 (0, 0)) (bkx_ BK399.out) hg (Kd.S_away HO_393001.out (fun _ hk => hk.2.2))); replace HB := am_ (hb); clear HO_393001 HO_400000; clear ho hb hg hat; obtain ⟨Ao90, co90, eo90⟩ := Kd.S_slice HO413.out; subst eo90; have hcz91_0 : w88.cell? ⟨gb392, 0, none⟩ = some (.int .i64 (wrap64 (bt a0 0))) := bc_ BK392 0; have hcz91_1 := bc_ (v := (u393001)) BK392 1; have hfz91_0 := blk_frozen BK392.out 0; have hfz91_1 := blk_frozen BK392.out 1))
               go_roundg k4
               case measure => have := HJ1.out; have := HK2.out; have := HJ13.out; have := HK4.out; omega
               case rel => exact ⟨(x5_4), (x392000_2), (y411), (.slice Ao90 y411.length co90), rs_, H', ⟨by have := HJ1.out; have := HK2.out; have := HJ13.out; have := HK4.out; omega⟩, ⟨by (with_reducible repeat (first | apply Kd.S_alloc | apply Kd.S_drewN | apply Kd.S_drew)); exact Kd.S_mono (Kd.S_far (p := ⟨gb392, 1, none⟩) (Kd.S_types HO413.out BK392.out (by decide)) (fun _ hk => hk.2) (.slice Ao90 y411.length co90)) (fun _ hk => trivial)⟩, ⟨(bf1_ NB391_392 (bkx_ BK391.out))⟩, ⟨by (with_reducible repeat (first | refine blk_drewN ?_ _ | refine blk_drew ?_ | refine blk_alloc ?_ _)); refine blk_put (cs := #[.int .i64 (wrap64 (bt a0 0)), u393001]) ?_ 1 _ rfl; (with_reducible repeat (first | refine blk_drewN ?_ _ | refine blk_drew ?_ | refine blk_alloc ?_ _)); exact BK392.out⟩, ⟨bb_⟩⟩
              ·rw [if_neg c80] at H
               exact nn_ H
         ·replace c19 := Bool.eq_false_iff.mpr c19
          subst c19; (rw [if_neg (show ¬ (false = true) by decide)] at H); replace H := bsi_ H; obtain ⟨t393, A920, H⟩ := H
          try dsimp only at H
          have A92 := am_ A920; clear A920
          by_cases c93 : t393.toList = a0.toList
          ·rw [if_pos c93] at H
           have c93b0 : (t393.toList == a0.toList) = true := beq_iff_eq.mpr c93; have c93b1 : (t393.toList != a0.toList) = false := bne_eq_false_iff_eq.mpr c93; clear c93; simp only [Option.some.injEq, Prod.mk.injEq] at H; obtain ⟨rfl, rfl, rfl⟩ := H; have hnb94 := NB392_391.out; have hnc94 := NB391_392.out; have hcz95_0 : wc.cell? ⟨gb392, 0, none⟩ = some (.int .i64 (wrap64 (bt a0 0))) := bc_ BK392 0; have hcz95_1 := bc_ (v := (u393001)) BK392 1; have hfz95_0 := blk_frozen BK392.out 0; have hfz95_1 := blk_frozen BK392.out 1; obtain ⟨Ao96, co96, eo96⟩ := Kd.S_slice HO_393001.out; subst eo96
           go_wp2_with (first | ((with_reducible refine gate_callee (f := 10) rfl ?_); refine gsL_ (some 78) Tryz.func10 #[.agg #[.int .i64 (wrap64 (bt a0 0)), .slice Ao96 x393001_2.length co96]] ?_; (with_reducible refine (spec_PutBag.calls kj13 (wrap64 (bt a0 0)) _ _ x393001_2 t393 _ ?side1 ?side2 A92.out).mono ?_); (case side1 => exact ck_ (Kd.S_reads' HO_393001.out).2.2); (case side2 => exact (Kd.S_reads' HO_393001.out).2.1); rintro e w97 ⟨rfl, hb⟩; refine ⟨_, rfl, ?_⟩; replace HO_393001 := am_ (Kd.S_below (sk_ HO_393001.out) hb); replace BK391 := bkb_ BK391 hb; replace BK392 := bkb_ BK392 hb; replace HB := bs_ hb; (try clear hb); have hcz98_0 : w97.cell? ⟨gb392, 0, none⟩ = some (.int .i64 (wrap64 (bt a0 0))) := bc_ BK392 0; have hcz98_1 := bc_ (v := (.slice Ao96 x393001_2.length co96)) BK392 1; have hfz98_0 := blk_frozen BK392.out 0; have hfz98_1 := blk_frozen BK392.out 1; obtain ⟨hcz99_0, hcz99_1, hfz99_0, hfz99_1⟩ := b2_ BK391))
           refine bodyPost_ret (results_ct rfl _ _ gb391 26 #[.int .i64 (wrap64 (bt a0 0)), .slice Ao96 x393001_2.length co96] (0, 0) _ rfl (bp2_ (bkx_ BK391.out)) Tryz.underlying26 rfl (by kernel_rfl)) rfl ?_; (exact ⟨_, rr_, by (with_reducible repeat (first | apply Kd.S_alloc | apply Kd.S_drewN | apply Kd.S_drew)); exact Kd.S_mono (Kd.S_far (p := ⟨gb391, 1, none⟩) (Kd.S_far (p := ⟨gb391, 0, none⟩) (Kd.S_types HO_393001.out BK391.out (by decide)) (fun _ hk => hk.2) (.int .i64 (wrap64 (bt a0 0)))) (fun _ hk => hk.2) (.slice Ao96 x393001_2.length co96)) (fun _ hk => trivial), ab33_⟩)
          ·rw [if_neg c93] at H
           have c93b0 : (t393.toList == a0.toList) = false := beq_eq_false_iff_ne.mpr c93; have c93b1 : (t393.toList != a0.toList) = true := bne_iff_ne.mpr c93; simp only [Option.some.injEq, Prod.mk.injEq] at H; obtain ⟨rfl, rfl, rfl⟩ := H; have hnb100 := NB392_391.out; have hnc100 := NB391_392.out; have hcz101_0 : wc.cell? ⟨gb392, 0, none⟩ = some (.int .i64 (wrap64 (bt a0 0))) := bc_ BK392 0; have hcz101_1 := bc_ (v := (u393001)) BK392 1; have hfz101_0 := blk_frozen BK392.out 0; have hfz101_1 := blk_frozen BK392.out 1; obtain ⟨Ao102, co102, eo102⟩ := Kd.S_slice HO_393001.out; subst eo102
           go_wp2_with (first | ((with_reducible refine gate_callee (f := 10) rfl ?_); refine gsL_ (some 78) Tryz.func10 #[.agg #[.int .i64 (wrap64 (bt a0 0)), .slice Ao102 x393001_2.length co102]] ?_; (with_reducible refine (spec_PutBag.calls kj13 (wrap64 (bt a0 0)) _ _ x393001_2 t393 _ ?side1 ?side2 A92.out).mono ?_); (case side1 => exact ck_ (Kd.S_reads' HO_393001.out).2.2); (case side2 => exact (Kd.S_reads' HO_393001.out).2.1); rintro e w103 ⟨rfl, hb⟩; refine ⟨_, rfl, ?_⟩; replace HO_393001 := am_ (Kd.S_below (sk_ HO_393001.out) hb); replace BK391 := bkb_ BK391 hb; replace BK392 := bkb_ BK392 hb; replace HB := bs_ hb; (try clear hb); obtain ⟨hcz104_0, hcz104_1, hfz104_0, hfz104_1⟩ := b2_ BK391))
           refine bodyPost_ret (results_ct rfl _ _ gb391 26 #[.int .i64 0, .slice none 0 0] (0, 0) _ rfl (bp2_ (bkx_ BK391.out)) Tryz.underlying26 rfl (by kernel_rfl)) rfl ?_; (exact ⟨_, rr_, by first | exact Kd.S_nil _ _ _ _ _ | exact Kd.N_nil _ _ _ _ _ | exact Kd.V_nil _ _ _ _ _ | exact Kd.Q_nil _ _ _ _ _ | exact Kd.R_nil _ _ _ _ _, ab33_⟩)
    ·rw [if_neg c9] at H
     exact nn_ H

/-! ### laws_sameRow: function 30 -/
def laws_sameRow.l0 : Nat → List (S50) → List (S50) → Int → Option (Bool)
 | 0, _, _, _ => none
 | k + 1, x0, x1, x5 => if x5 < (x0.length : Int) then (if 0 ≤ x5 then (if x5 < (x1.length : Int) then (if (!(((rd_T50 x0 x5).f0) == ((rd_T50 x1 x5).f0)) || (!(((rd_T50 x0 x5).f1) == ((rd_T50 x1 x5).f1)) || (!((((rd_T50 x0 x5).f2).toList) == (((rd_T50 x1 x5).f2).toList))))) = true then (some false) else (laws_sameRow.l0 k x0 x1 (wrap64 (x5 + 1)))) else (none)) else (none)) else (some true)
def laws_sameRow.f (k : Nat) (l0 : List (S50)) (l1 : List (S50)) : Option (Bool) := if (l0.length : Int) = (l1.length : Int) then (laws_sameRow.l0 k l0 l1 0) else (some false)
set_option maxHeartbeats 8000000 in
set_option maxRecDepth 100000 in
theorem laws_sameRow.calls (k : Nat) (A0 : Option Addr) (c0 : Nat) (l0 : List (S50)) (A1 : Option Addr) (c1 : Nat) (l1 : List (S50)) (r : Bool) (w : World) (hr0 : Kd.C k50 w A0 l0.length l0) (hc0 : l0.length ≤ c0) (hr1 : Kd.C k50 w A1 l1.length l1) (hc1 : l1.length ≤ c1) (h : laws_sameRow.f k l0 l1 = some r) :
  Calls Tryz.prog 30 #[.slice A0 l0.length c0, .slice A1 l1.length c1] w fun e w' => e = .returned (.bool r) ∧ Drawn0 w w' := by
 have hu50 := Tryz.underlying50
 have HR0 := am_ hr0
 have HC0 := am_ hc0
 clear hr0 hc0
 have HR1 := am_ hr1
 have HC1 := am_ hc1
 clear hr1 hc1
 have H : (if (l0.length : Int) = (l1.length : Int) then (laws_sameRow.l0 k l0 l1 0) else (some false)) = some r := h
 clear h
 by_cases c3 : (l0.length : Int) = (l1.length : Int)
 ·rw [if_pos c3] at H
  have c3b0 : ((l0.length : Int) == (l1.length : Int)) = true := beq_iff_eq.mpr c3; have c3b1 : ((l0.length : Int) != (l1.length : Int)) = false := bne_eq_false_iff_eq.mpr c3; (have c3b2 : (l0.length == l1.length) = true := by first | simpa using c3 | (simp at c3 ⊢; omega)); clear c3; have H' := am_ H; clear H
  go_enter Tryz.func30, Tryz.ntmps30
  go_wp2
  repeat (go_quiet (fail); try go_wp2)
  go_loopg [5] k (fun kq v5 w' => ∃ (x5_1 : Int), v5 = .int .i64 x5_1 ∧ Aside0 (laws_sameRow.l0 kq l0 l1 x5_1 = some r) ∧ Aside0 (kq ≤ k) ∧ Drawn0 w w')
  case atStart => exact ⟨(0), rs_, H', ⟨Nat.le_refl _⟩, by repeat (first | exact Drawn0.refl _ | apply Drawn0.step)⟩
  case round =>
   clear H'; (try clear c1); (try clear p2); (try clear c3); (try clear c3b0); (try clear c3b1); (try clear c3b2); obtain ⟨x5_1, rfl, HA, HK1, ⟨m1, rfl⟩⟩ := hrel
   cases gk with
   | zero => exact absurd HA.out (by simp [laws_sameRow.l0])
   | succ k1 =>
    have H := HA.out; clear HA; simp only [laws_sameRow.l0] at H
    by_cases c4 : x5_1 < (l0.length : Int)
    ·rw [if_pos c4] at H
     have c4b0 := decide_eq_true c4; clear c4
     by_cases c5 : 0 ≤ x5_1
     ·rw [if_pos c5] at H
      have c5b0 := decide_eq_true c5; clear c5
      by_cases c6 : x5_1 < (l1.length : Int)
      ·rw [if_pos c6] at H
       have c6b0 := decide_eq_true c6; clear c6
       by_cases c7 : (!(((rd_T50 l0 x5_1).f0) == ((rd_T50 l1 x5_1).f0)) || (!(((rd_T50 l0 x5_1).f1) == ((rd_T50 l1 x5_1).f1)) || (!((((rd_T50 l0 x5_1).f2).toList) == (((rd_T50 l1 x5_1).f2).toList))))) = true
       ·rw [if_pos c7] at H
        (have c7b0 : (!(((rd_T50 l0 x5_1).f0) == ((rd_T50 l1 x5_1).f0)) || (!(((rd_T50 l0 x5_1).f1) == ((rd_T50 l1 x5_1).f1)) || (!((((rd_T50 l0 x5_1).f2).toList) == (((rd_T50 l1 x5_1).f2).toList))))) = true := c7); clear c7; obtain rfl := Option.some.inj H; (have p414 : 0 ≤ (x5_1 : Int) := oa_); (have q414 : x5_1 < (l0.length : Int) := oa_); obtain ⟨ad414, e414, hx414_0, hx414_1, hx414_2⟩ := at_T50 HR0.out x5_1 p414 q414; cases e414; replace p414 := eq_true p414; replace q414 := eq_true q414; (have p415 : 0 ≤ (x5_1 : Int) := oa_); (have q415 : x5_1 < (l1.length : Int) := oa_); obtain ⟨ad415, e415, hx415_0, hx415_1, hx415_2⟩ := at_T50 HR1.out x5_1 p415 q415; cases e415; replace p415 := eq_true p415; replace q415 := eq_true q415
        go_wp2
        repeat (go_quiet (fail); try go_wp2)
        go_ret
        (exact ⟨by first | rfl | (simp; done) | (simp [*]; done), by repeat (first | exact Drawn0.refl _ | apply Drawn0.step)⟩)
       ·rw [if_neg c7] at H
        (have c7b0 : (!(((rd_T50 l0 x5_1).f0) == ((rd_T50 l1 x5_1).f0)) || (!(((rd_T50 l0 x5_1).f1) == ((rd_T50 l1 x5_1).f1)) || (!((((rd_T50 l0 x5_1).f2).toList) == (((rd_T50 l1 x5_1).f2).toList))))) = false := by simpa using c7); clear c7; have H' := am_ H; clear H; (have p414 : 0 ≤ (x5_1 : Int) := oa_); (have q414 : x5_1 < (l0.length : Int) := oa_); obtain ⟨ad414, e414, hx414_0, hx414_1, hx414_2⟩ := at_T50 HR0.out x5_1 p414 q414; cases e414; replace p414 := eq_true p414; replace q414 := eq_true q414; (have p415 : 0 ≤ (x5_1 : Int) := oa_); (have q415 : x5_1 < (l1.length : Int) := oa_); obtain ⟨ad415, e415, hx415_0, hx415_1, hx415_2⟩ := at_T50 HR1.out x5_1 p415 q415; cases e415; replace p415 := eq_true p415; replace q415 := eq_true q415
        go_wp2
        repeat (go_quiet (fail); try go_wp2)
        go_roundg k1
        case measure => have := HK1.out; omega
        case rel => exact ⟨(wrap64 (x5_1 + 1)), rs_, H', ⟨by have := HK1.out; omega⟩, by repeat (first | exact Drawn0.refl _ | apply Drawn0.step)⟩
      ·rw [if_neg c6] at H
       exact nn_ H
     ·rw [if_neg c5] at H
      exact nn_ H
    ·rw [if_neg c4] at H
     have c4b0 := decide_eq_false c4; clear c4; obtain rfl := Option.some.inj H
     go_wp2
     repeat (go_quiet (fail); try go_wp2)
     go_ret
     (exact ⟨by first | rfl | (simp; done) | (simp [*]; done), by repeat (first | exact Drawn0.refl _ | apply Drawn0.step)⟩)
 ·rw [if_neg c3] at H
  have c3b0 : ((l0.length : Int) == (l1.length : Int)) = false := beq_eq_false_iff_ne.mpr c3; have c3b1 : ((l0.length : Int) != (l1.length : Int)) = true := bne_iff_ne.mpr c3; (have c3b2 : (l0.length == l1.length) = false := by first | simpa using c3 | (simp at c3 ⊢; omega)); obtain rfl := Option.some.inj H
  go_enter Tryz.func30, Tryz.ntmps30
  go_wp2
  repeat (go_quiet (fail); try go_wp2)
  go_ret
  (exact ⟨by first | rfl | (simp; done) | (simp [*]; done), by repeat (first | exact Drawn0.refl _ | apply Drawn0.step)⟩)
/-! ### laws_sameBag: function 11 -/
mutual
def laws_sameBag.j0 : Nat → Bool → Int → List (S47) → Int → List (S47) → Option (Bool)
 | 0, _, _, _, _, _ => none
 | k + 1, x19, x417000, x417001, x418000, x418001 => if x19 = true then (some false) else (laws_sameBag.l0 k 0 x417000 x417001 x418000 x418001)
def laws_sameBag.l0 : Nat → Int → Int → List (S47) → Int → List (S47) → Option (Bool)
 | 0, _, _, _, _, _ => none
 | k + 1, x5, x417000, x417001, x418000, x418001 => if x5 < (x417001.length : Int) then (if 0 ≤ x5 then (if x5 < (x418001.length : Int) then (if ((rd_T47 x417001 x5).f1) = ((rd_T47 x418001 x5).f1) then ((laws_sameRow.f k ((rd_T47 x417001 x5).f0) ((rd_T47 x418001 x5).f0)).bind fun t422 => (if t422 = true then (laws_sameBag.l0 k (wrap64 (x5 + 1)) x417000 x417001 x418000 x418001) else (some false))) else (some false)) else (none)) else (none)) else (some true)
end
def laws_sameBag.f (k : Nat) (a0_0 : Int) (l0_1 : List (S47)) (a1_0 : Int) (l1_1 : List (S47)) : Option (Bool) := if a0_0 = a1_0 then (laws_sameBag.j0 k ((l0_1.length : Int) != (l1_1.length : Int)) a0_0 l0_1 a1_0 l1_1) else (laws_sameBag.j0 k true a0_0 l0_1 a1_0 l1_1)
set_option maxHeartbeats 8000000 in
set_option maxRecDepth 100000 in
theorem laws_sameBag.calls (k : Nat) (a0_0 : Int) (A0_1 : Option Addr) (c0_1 : Nat) (l0_1 : List (S47)) (a1_0 : Int) (A1_1 : Option Addr) (c1_1 : Nat) (l1_1 : List (S47)) (r : Bool) (w : World) (hr0_1 : Kd.C k47 w A0_1 l0_1.length l0_1) (hc0_1 : l0_1.length ≤ c0_1) (hr1_1 : Kd.C k47 w A1_1 l1_1.length l1_1) (hc1_1 : l1_1.length ≤ c1_1) (h : laws_sameBag.f k a0_0 l0_1 a1_0 l1_1 = some r) :
  Calls Tryz.prog 11 #[.agg #[.int .i64 a0_0, .slice A0_1 l0_1.length c0_1], .agg #[.int .i64 a1_0, .slice A1_1 l1_1.length c1_1]] w fun e w' => e = .returned (.bool r) ∧ Below w.heap.size w w' := by
 have hu26 := Tryz.underlying26
 have HR0_1 := am_ hr0_1
 have HC0_1 := am_ hc0_1
 clear hr0_1 hc0_1
 have HR1_1 := am_ hr1_1
 have HC1_1 := am_ hc1_1
 clear hr1_1 hc1_1
 have HB := am_ (Below.refl w.heap.size w)
 have H : (if a0_0 = a1_0 then (laws_sameBag.j0 k ((l0_1.length : Int) != (l1_1.length : Int)) a0_0 l0_1 a1_0 l1_1) else (laws_sameBag.j0 k true a0_0 l0_1 a1_0 l1_1)) = some r := h
 clear h
 have HC3 := am_ H
 clear H
 go_enter Tryz.func11, Tryz.ntmps11
 go_upto_region 1 with (first | ((with_reducible refine gate_dst (N := 2) rfl ?_); (try (refine gate_guard (by rfl) ?_; dsimp only)); refine bx_ 2 #[.int .i64 a0_0, .slice A0_1 l0_1.length c0_1] 26 ?_; intro gb416 hg w4 hbox hb; have BK416 := am_ (hbox); have GW416 := gw_ hg; have GE416 := gw_ hg; replace HB := bs_ hb; clear hb hbox hg) | ((with_reducible refine gate_dst (N := 3) rfl ?_); (try (refine gate_guard (by rfl) ?_; dsimp only)); refine bx_ 3 #[.int .i64 a1_0, .slice A1_1 l1_1.length c1_1] 26 ?_; intro gb417 hg w5 hbox hb; have BK417 := am_ (hbox); have GW417 := gw_ hg; have GE417 := gw_ hg; have NB416_417 := nl_ hg BK416; have NB417_416 := ng_ hg BK416; replace BK416 := bkb_ BK416 hb; replace HB := bs_ hb; clear hb hbox hg))
 repeat (go_quiet (first | ((with_reducible refine gate_dst (N := 2) rfl ?_); (try (refine gate_guard (by rfl) ?_; dsimp only)); refine bx_ 2 #[.int .i64 a0_0, .slice A0_1 l0_1.length c0_1] 26 ?_; intro gb416 hg w4 hbox hb; have BK416 := am_ (hbox); have GW416 := gw_ hg; have GE416 := gw_ hg; replace HB := bs_ hb; clear hb hbox hg) | ((with_reducible refine gate_dst (N := 3) rfl ?_); (try (refine gate_guard (by rfl) ?_; dsimp only)); refine bx_ 3 #[.int .i64 a1_0, .slice A1_1 l1_1.length c1_1] 26 ?_; intro gb417 hg w5 hbox hb; have BK417 := am_ (hbox); have GW417 := gw_ hg; have GE417 := gw_ hg; have NB416_417 := nl_ hg BK416; have NB417_416 := ng_ hg BK416; replace BK416 := bkb_ BK416 hb; replace HB := bs_ hb; clear hb hbox hg)); go_upto_region 1 with (first | ((with_reducible refine gate_dst (N := 2) rfl ?_); (try (refine gate_guard (by rfl) ?_; dsimp only)); refine bx_ 2 #[.int .i64 a0_0, .slice A0_1 l0_1.length c0_1] 26 ?_; intro gb416 hg w4 hbox hb; have BK416 := am_ (hbox); have GW416 := gw_ hg; have GE416 := gw_ hg; replace HB := bs_ hb; clear hb hbox hg) | ((with_reducible refine gate_dst (N := 3) rfl ?_); (try (refine gate_guard (by rfl) ?_; dsimp only)); refine bx_ 3 #[.int .i64 a1_0, .slice A1_1 l1_1.length c1_1] 26 ?_; intro gb417 hg w5 hbox hb; have BK417 := am_ (hbox); have GW417 := gw_ hg; have GE417 := gw_ hg; have NB416_417 := nl_ hg BK416; have NB417_416 := ng_ hg BK416; replace BK416 := bkb_ BK416 hb; replace HB := bs_ hb; clear hb hbox hg)))
 (try simp only [Act.put, List.setIfInBounds_toArray, List.set_cons_zero, List.set_cons_succ])
 go_cut [19] (fun v19 wc => ∃ (kq : Nat) (x19_2 : Bool), v19 = .bool x19_2 ∧ Aside0 (laws_sameBag.j0 kq x19_2 a0_0 l0_1 a1_0 l1_1 = some r) ∧ Aside0 (kq ≤ k) ∧ Aside0 (wc.heap[gb416]? = some (.cells #[.int .i64 a0_0, (.slice A0_1 l0_1.length c0_1)] 26 (0, 0))) ∧ Aside0 (wc.heap[gb417]? = some (.cells #[.int .i64 a1_0, (.slice A1_1 l1_1.length c1_1)] 26 (0, 0))) ∧ Aside0 (Below w.heap.size w wc))
 case first =>
  have H := HC3.out; clear HC3
  by_cases c6 : a0_0 = a1_0
  ·rw [if_pos c6] at H
   have c6b0 : (a0_0 == a1_0) = true := beq_iff_eq.mpr c6; have c6b1 : (a0_0 != a1_0) = false := bne_eq_false_iff_eq.mpr c6; clear c6; (first | rw [c6b0] | (simp only [i64_w, i32_w]; rw [c6b0]) | skip); have H' := am_ H; clear H; have hnb7 := NB416_417.out; have hnc7 := NB417_416.out; obtain ⟨hcz8_0, hcz8_1, hfz8_0, hfz8_1⟩ := b2_ BK416; obtain ⟨hcz9_0, hcz9_1, hfz9_0, hfz9_1⟩ := b2_ BK417
   go_wp2
   repeat (go_quiet (fail); try go_wp2)
   go_meet
   case rel => exact ⟨_, (((l0_1.length : Int) != (l1_1.length : Int))), rs_, H', ⟨by first | omega | exact Nat.le_refl _⟩, ⟨bkx_ BK416.out⟩, ⟨bkx_ BK417.out⟩, ⟨bb_⟩⟩
  ·rw [if_neg c6] at H
   have c6b0 : (a0_0 == a1_0) = false := beq_eq_false_iff_ne.mpr c6; have c6b1 : (a0_0 != a1_0) = true := bne_iff_ne.mpr c6; (first | rw [c6b0] | (simp only [i64_w, i32_w]; rw [c6b0]) | skip); have H' := am_ H; clear H; have hnb10 := NB416_417.out; have hnc10 := NB417_416.out; obtain ⟨hcz11_0, hcz11_1, hfz11_0, hfz11_1⟩ := b2_ BK416; obtain ⟨hcz12_0, hcz12_1, hfz12_0, hfz12_1⟩ := b2_ BK417
   go_wp2
   repeat (go_quiet (fail); try go_wp2)
   go_meet
   case rel => exact ⟨_, (true), rs_, H', ⟨by first | omega | exact Nat.le_refl _⟩, ⟨bkx_ BK416.out⟩, ⟨bkx_ BK417.out⟩, ⟨bb_⟩⟩
 case rest =>
  clear HC3; (try clear c1); (try clear p2); (try clear c6); (try clear c6b0); (try clear c6b1); (try clear c7); (try clear c10); (try clear c11); (try clear hcz11_0 hcz11_1); (try clear hcz12_0 hcz12_1); (try clear hcz8_0 hcz8_1); (try clear hcz9_0 hcz9_1); (try clear hfz11_0 hfz11_1); (try clear hfz12_0 hfz12_1); (try clear hfz8_0 hfz8_1); (try clear hfz9_0 hfz9_1); obtain ⟨kq, x19_2, rfl, HA, HJ2, BK416, BK417, HB⟩ := hcut
  cases kq with
  | zero => exact absurd HA.out (by simp [laws_sameBag.j0])
  | succ kj2 =>
   have H := HA.out; clear HA; simp only [laws_sameBag.j0] at H
   by_cases c13 : x19_2 = true
   ·subst c13
    rw [if_pos rfl] at H; obtain rfl := Option.some.inj H
    go_wp2
    repeat (go_quiet (fail); try go_wp2)
    go_ret
    exact ⟨er_, bb_⟩
   ·replace c13 := Bool.eq_false_iff.mpr c13
    subst c13; (rw [if_neg (show ¬ (false = true) by decide)] at H); have H' := am_ H; clear H
    go_wp2
    repeat (go_quiet (fail); try go_wp2)
    go_loopg [5] kj2 (fun kq v5 w' => ∃ (x5_2 : Int), v5 = .int .i64 x5_2 ∧ Aside0 (laws_sameBag.l0 kq x5_2 a0_0 l0_1 a1_0 l1_1 = some r) ∧ Aside0 (kq ≤ kj2) ∧ Aside0 (w'.heap[gb416]? = some (.cells #[.int .i64 a0_0, (.slice A0_1 l0_1.length c0_1)] 26 (0, 0))) ∧ Aside0 (w'.heap[gb417]? = some (.cells #[.int .i64 a1_0, (.slice A1_1 l1_1.length c1_1)] 26 (0, 0))) ∧ Aside0 (Below w.heap.size w w'))
    case atStart => exact ⟨(0), rs_, H', ⟨Nat.le_refl _⟩, ⟨bkx_ BK416.out⟩, ⟨bkx_ BK417.out⟩, ⟨bb_⟩⟩
    case round =>
     clear H'; (try clear c1); (try clear p2); (try clear c6); (try clear c6b0); (try clear c6b1); (try clear c7); (try clear c10); (try clear c11); (try clear c13); (try clear hcz11_0 hcz11_1); (try clear hcz12_0 hcz12_1); (try clear hcz8_0 hcz8_1); (try clear hcz9_0 hcz9_1); (try clear hfz11_0 hfz11_1); (try clear hfz12_0 hfz12_1); (try clear hfz8_0 hfz8_1); (try clear hfz9_0 hfz9_1); (try clear p2); obtain ⟨x5_2, rfl, HA, HK2, BK416, BK417, HB⟩ := hrel
     cases gk with
     | zero => exact absurd HA.out (by simp [laws_sameBag.l0])
     | succ k2 =>
      have H := HA.out; clear HA; simp only [laws_sameBag.l0] at H
      by_cases c14 : x5_2 < (l0_1.length : Int)
      ·rw [if_pos c14] at H
       have c14b0 := decide_eq_true c14; clear c14
       by_cases c15 : 0 ≤ x5_2
       ·rw [if_pos c15] at H
        have c15b0 := decide_eq_true c15; clear c15
        by_cases c16 : x5_2 < (l1_1.length : Int)
        ·rw [if_pos c16] at H
         have c16b0 := decide_eq_true c16; clear c16
         by_cases c17 : ((rd_T47 l0_1 x5_2).f1) = ((rd_T47 l1_1 x5_2).f1)
         ·rw [if_pos c17] at H
          have c17b0 : (((rd_T47 l0_1 x5_2).f1) == ((rd_T47 l1_1 x5_2).f1)) = true := beq_iff_eq.mpr c17; have c17b1 : (((rd_T47 l0_1 x5_2).f1) != ((rd_T47 l1_1 x5_2).f1)) = false := bne_eq_false_iff_eq.mpr c17; clear c17; replace H := bsi_ H; obtain ⟨t422, A180, H⟩ := H
          try dsimp only at H
          have A18 := am_ A180; clear A180
          by_cases c19 : t422 = true
          ·subst c19
           rw [if_pos rfl] at H; have H' := am_ H; clear H; have hnb20 := NB416_417.out; have hnc20 := NB417_416.out; obtain ⟨hcz21_0, hcz21_1, hfz21_0, hfz21_1⟩ := b2_ BK416; (have p418 : 0 ≤ (x5_2 : Int) := oa_); (have q418 : x5_2 < (l0_1.length : Int) := oa_); obtain ⟨ad418, A418_0, c418_0, e418, hx418_0, hx418_1, hl418_0, hi418_0⟩ := at_T47 HR0_1.out x5_2 p418 q418; cases e418; replace hx418_0 := hb_ HB hx418_0; replace hx418_1 := hb_ HB hx418_1; have HR418_0 := am_ hi418_0; have HC418_0 := am_ hl418_0; clear hi418_0 hl418_0; replace p418 := eq_true p418; replace q418 := eq_true q418; obtain ⟨hcz22_0, hcz22_1, hfz22_0, hfz22_1⟩ := b2_ BK417; (have p419 : 0 ≤ (x5_2 : Int) := oa_); (have q419 : x5_2 < (l1_1.length : Int) := oa_); obtain ⟨ad419, A419_0, c419_0, e419, hx419_0, hx419_1, hl419_0, hi419_0⟩ := at_T47 HR1_1.out x5_2 p419 q419; cases e419; replace hx419_0 := hb_ HB hx419_0; replace hx419_1 := hb_ HB hx419_1; have HR419_0 := am_ hi419_0; have HC419_0 := am_ hl419_0; clear hi419_0 hl419_0; replace p419 := eq_true p419; replace q419 := eq_true q419; (have p420 : 0 ≤ (x5_2 : Int) := oa_); (have q420 : x5_2 < (l0_1.length : Int) := oa_); obtain ⟨ad420, A420_0, c420_0, e420, hx420_0, hx420_1, hl420_0, hi420_0⟩ := at_T47 HR0_1.out x5_2 p420 q420; obtain rfl : ad418 = ad420 := (by injection e420); replace hx420_0 := hb_ HB hx420_0; replace hx420_1 := hb_ HB hx420_1; have HR420_0 := am_ hi420_0; have HC420_0 := am_ hl420_0; clear hi420_0 hl420_0; replace p420 := eq_true p420; replace q420 := eq_true q420; have ea_ := Option.some.inj (hx418_0.symm.trans hx420_0); injection ea_ with ea_ en_ ec_; subst ea_; subst ec_; clear en_; (have p421 : 0 ≤ (x5_2 : Int) := oa_); (have q421 : x5_2 < (l1_1.length : Int) := oa_); obtain ⟨ad421, A421_0, c421_0, e421, hx421_0, hx421_1, hl421_0, hi421_0⟩ := at_T47 HR1_1.out x5_2 p421 q421; obtain rfl : ad419 = ad421 := (by injection e421); replace hx421_0 := hb_ HB hx421_0; replace hx421_1 := hb_ HB hx421_1; have HR421_0 := am_ hi421_0; have HC421_0 := am_ hl421_0; clear hi421_0 hl421_0; replace p421 := eq_true p421; replace q421 := eq_true q421; have ea_ := Option.some.inj (hx419_0.symm.trans hx421_0); injection ea_ with ea_ en_ ec_; subst ea_; subst ec_; clear en_
           go_wp2_with (first | (go_at_call 30; (with_reducible refine (laws_sameRow.calls k2 _ _ ((rd_T47 l0_1 x5_2).f0) _ _ ((rd_T47 l1_1 x5_2).f0) true _ ?side1 ?side2 ?side3 ?side4 A18.out).mono ?_); (case side1 => exact ck_ (Kd.C_below HR420_0.out HB.out)); (case side2 => exact HC420_0.out); (case side3 => exact ck_ (Kd.C_below HR421_0.out HB.out)); (case side4 => exact HC421_0.out); rintro e w' ⟨rfl, ⟨nd, rfl⟩⟩; (try first | exact ⟨rfl, _, World.drewN_drewN _ _ _⟩ | exact ⟨rfl, _, Eq.trans (World.drewN_drewN _ _ _) (congrArg (World.drewN _) (Nat.add_assoc _ _ _))⟩)))
           repeat (go_quiet (first | (go_at_call 30; (with_reducible refine (laws_sameRow.calls k2 _ _ ((rd_T47 l0_1 x5_2).f0) _ _ ((rd_T47 l1_1 x5_2).f0) true _ ?side1 ?side2 ?side3 ?side4 A18.out).mono ?_); (case side1 => exact ck_ (Kd.C_below HR420_0.out HB.out)); (case side2 => exact HC420_0.out); (case side3 => exact ck_ (Kd.C_below HR421_0.out HB.out)); (case side4 => exact HC421_0.out); rintro e w' ⟨rfl, ⟨nd, rfl⟩⟩; (try first | exact ⟨rfl, _, World.drewN_drewN _ _ _⟩ | exact ⟨rfl, _, Eq.trans (World.drewN_drewN _ _ _) (congrArg (World.drewN _) (Nat.add_assoc _ _ _))⟩))); try go_wp2_with (first | (go_at_call 30; (with_reducible refine (laws_sameRow.calls k2 _ _ ((rd_T47 l0_1 x5_2).f0) _ _ ((rd_T47 l1_1 x5_2).f0) true _ ?side1 ?side2 ?side3 ?side4 A18.out).mono ?_); (case side1 => exact ck_ (Kd.C_below HR420_0.out HB.out)); (case side2 => exact HC420_0.out); (case side3 => exact ck_ (Kd.C_below HR421_0.out HB.out)); (case side4 => exact HC421_0.out); rintro e w' ⟨rfl, ⟨nd, rfl⟩⟩; (try first | exact ⟨rfl, _, World.drewN_drewN _ _ _⟩ | exact ⟨rfl, _, Eq.trans (World.drewN_drewN _ _ _) (congrArg (World.drewN _) (Nat.add_assoc _ _ _))⟩))))
           go_roundg k2
           case measure => have := HJ2.out; have := HK2.out; omega
           case rel => exact ⟨(wrap64 (x5_2 + 1)), rs_, H', ⟨by have := HJ2.out; have := HK2.out; omega⟩, ⟨bkx_ BK416.out⟩, ⟨bkx_ BK417.out⟩, ⟨bb_⟩⟩
          ·replace c19 := Bool.eq_false_iff.mpr c19
           subst c19; (rw [if_neg (show ¬ (false = true) by decide)] at H); obtain rfl := Option.some.inj H; have hnb23 := NB416_417.out; have hnc23 := NB417_416.out; obtain ⟨hcz24_0, hcz24_1, hfz24_0, hfz24_1⟩ := b2_ BK416; (have p418 : 0 ≤ (x5_2 : Int) := oa_); (have q418 : x5_2 < (l0_1.length : Int) := oa_); obtain ⟨ad418, A418_0, c418_0, e418, hx418_0, hx418_1, hl418_0, hi418_0⟩ := at_T47 HR0_1.out x5_2 p418 q418; cases e418; replace hx418_0 := hb_ HB hx418_0; replace hx418_1 := hb_ HB hx418_1; have HR418_0 := am_ hi418_0; have HC418_0 := am_ hl418_0; clear hi418_0 hl418_0; replace p418 := eq_true p418; replace q418 := eq_true q418; obtain ⟨hcz25_0, hcz25_1, hfz25_0, hfz25_1⟩ := b2_ BK417; (have p419 : 0 ≤ (x5_2 : Int) := oa_); (have q419 : x5_2 < (l1_1.length : Int) := oa_); obtain ⟨ad419, A419_0, c419_0, e419, hx419_0, hx419_1, hl419_0, hi419_0⟩ := at_T47 HR1_1.out x5_2 p419 q419; cases e419; replace hx419_0 := hb_ HB hx419_0; replace hx419_1 := hb_ HB hx419_1; have HR419_0 := am_ hi419_0; have HC419_0 := am_ hl419_0; clear hi419_0 hl419_0; replace p419 := eq_true p419; replace q419 := eq_true q419; (have p420 : 0 ≤ (x5_2 : Int) := oa_); (have q420 : x5_2 < (l0_1.length : Int) := oa_); obtain ⟨ad420, A420_0, c420_0, e420, hx420_0, hx420_1, hl420_0, hi420_0⟩ := at_T47 HR0_1.out x5_2 p420 q420; obtain rfl : ad418 = ad420 := (by injection e420); replace hx420_0 := hb_ HB hx420_0; replace hx420_1 := hb_ HB hx420_1; have HR420_0 := am_ hi420_0; have HC420_0 := am_ hl420_0; clear hi420_0 hl420_0; replace p420 := eq_true p420; replace q420 := eq_true q420; have ea_ := Option.some.inj (hx418_0.symm.trans hx420_0); injection ea_ with ea_ en_ ec_; subst ea_; subst ec_; clear en_; (have p421 : 0 ≤ (x5_2 : Int) := oa_); (have q421 : x5_2 < (l1_1.length : Int) := oa_); obtain ⟨ad421, A421_0, c421_0, e421, hx421_0, hx421_1, hl421_0, hi421_0⟩ := at_T47 HR1_1.out x5_2 p421 q421; obtain rfl : ad419 = ad421 := (by injection e421); replace hx421_0 := hb_ HB hx421_0; replace hx421_1 := hb_ HB hx421_1; have HR421_0 := am_ hi421_0; have HC421_0 := am_ hl421_0; clear hi421_0 hl421_0; replace p421 := eq_true p421; replace q421 := eq_true q421; have ea_ := Option.some.inj (hx419_0.symm.trans hx421_0); injection ea_ with ea_ en_ ec_; subst ea_; subst ec_; clear en_
           go_wp2_with (first | (go_at_call 30; (with_reducible refine (laws_sameRow.calls k2 _ _ ((rd_T47 l0_1 x5_2).f0) _ _ ((rd_T47 l1_1 x5_2).f0) false _ ?side1 ?side2 ?side3 ?side4 A18.out).mono ?_); (case side1 => exact ck_ (Kd.C_below HR420_0.out HB.out)); (case side2 => exact HC420_0.out); (case side3 => exact ck_ (Kd.C_below HR421_0.out HB.out)); (case side4 => exact HC421_0.out); rintro e w' ⟨rfl, ⟨nd, rfl⟩⟩; (try first | exact ⟨rfl, _, World.drewN_drewN _ _ _⟩ | exact ⟨rfl, _, Eq.trans (World.drewN_drewN _ _ _) (congrArg (World.drewN _) (Nat.add_assoc _ _ _))⟩)))
           repeat (go_quiet (first | (go_at_call 30; (with_reducible refine (laws_sameRow.calls k2 _ _ ((rd_T47 l0_1 x5_2).f0) _ _ ((rd_T47 l1_1 x5_2).f0) false _ ?side1 ?side2 ?side3 ?side4 A18.out).mono ?_); (case side1 => exact ck_ (Kd.C_below HR420_0.out HB.out)); (case side2 => exact HC420_0.out); (case side3 => exact ck_ (Kd.C_below HR421_0.out HB.out)); (case side4 => exact HC421_0.out); rintro e w' ⟨rfl, ⟨nd, rfl⟩⟩; (try first | exact ⟨rfl, _, World.drewN_drewN _ _ _⟩ | exact ⟨rfl, _, Eq.trans (World.drewN_drewN _ _ _) (congrArg (World.drewN _) (Nat.add_assoc _ _ _))⟩))); try go_wp2_with (first | (go_at_call 30; (with_reducible refine (laws_sameRow.calls k2 _ _ ((rd_T47 l0_1 x5_2).f0) _ _ ((rd_T47 l1_1 x5_2).f0) false _ ?side1 ?side2 ?side3 ?side4 A18.out).mono ?_); (case side1 => exact ck_ (Kd.C_below HR420_0.out HB.out)); (case side2 => exact HC420_0.out); (case side3 => exact ck_ (Kd.C_below HR421_0.out HB.out)); (case side4 => exact HC421_0.out); rintro e w' ⟨rfl, ⟨nd, rfl⟩⟩; (try first | exact ⟨rfl, _, World.drewN_drewN _ _ _⟩ | exact ⟨rfl, _, Eq.trans (World.drewN_drewN _ _ _) (congrArg (World.drewN _) (Nat.add_assoc _ _ _))⟩))))
           go_ret
           exact ⟨er_, bb_⟩
         ·rw [if_neg c17] at H
          have c17b0 : (((rd_T47 l0_1 x5_2).f1) == ((rd_T47 l1_1 x5_2).f1)) = false := beq_eq_false_iff_ne.mpr c17; have c17b1 : (((rd_T47 l0_1 x5_2).f1) != ((rd_T47 l1_1 x5_2).f1)) = true := bne_iff_ne.mpr c17; obtain rfl := Option.some.inj H; have hnb26 := NB416_417.out; have hnc26 := NB417_416.out; obtain ⟨hcz27_0, hcz27_1, hfz27_0, hfz27_1⟩ := b2_ BK416; (have p418 : 0 ≤ (x5_2 : Int) := oa_); (have q418 : x5_2 < (l0_1.length : Int) := oa_); obtain ⟨ad418, A418_0, c418_0, e418, hx418_0, hx418_1, hl418_0, hi418_0⟩ := at_T47 HR0_1.out x5_2 p418 q418; cases e418; replace hx418_0 := hb_ HB hx418_0; replace hx418_1 := hb_ HB hx418_1; have HR418_0 := am_ hi418_0; have HC418_0 := am_ hl418_0; clear hi418_0 hl418_0; replace p418 := eq_true p418; replace q418 := eq_true q418; obtain ⟨hcz28_0, hcz28_1, hfz28_0, hfz28_1⟩ := b2_ BK417; (have p419 : 0 ≤ (x5_2 : Int) := oa_); (have q419 : x5_2 < (l1_1.length : Int) := oa_); obtain ⟨ad419, A419_0, c419_0, e419, hx419_0, hx419_1, hl419_0, hi419_0⟩ := at_T47 HR1_1.out x5_2 p419 q419; cases e419; replace hx419_0 := hb_ HB hx419_0; replace hx419_1 := hb_ HB hx419_1; have HR419_0 := am_ hi419_0; have HC419_0 := am_ hl419_0; clear hi419_0 hl419_0; replace p419 := eq_true p419; replace q419 := eq_true q419
          go_wp2
          repeat (go_quiet (fail); try go_wp2)
          go_ret
          exact ⟨er_, bb_⟩
        ·rw [if_neg c16] at H
         exact nn_ H
       ·rw [if_neg c15] at H
        exact nn_ H
      ·rw [if_neg c14] at H
       have c14b0 := decide_eq_false c14; clear c14; obtain rfl := Option.some.inj H; have hnb29 := NB416_417.out; have hnc29 := NB417_416.out; obtain ⟨hcz30_0, hcz30_1, hfz30_0, hfz30_1⟩ := b2_ BK416
       go_wp2
       repeat (go_quiet (fail); try go_wp2)
       go_ret
       exact ⟨er_, bb_⟩

/-! ### strconv_Itoa: function 53 -/
-- by hand
/-- What the library's own variables hold. -/
def CellIn (w : World) : Prop := ∃ m, w.cell? ⟨0, 0, none⟩ = some (.int .i64 m)
def TabIn (w : World) : Prop := Lib.TabIs Tryz.prog w "internal/strconv.uint64pow10" .u64 Lib.pow10Tab
def MaxLenIn (w : World) : Prop := CellIn w ∧ TabIn w
theorem MaxLenIn.drewN {w : World} (h : MaxLenIn w) (n : Nat) : MaxLenIn (w.drewN n) := h
theorem CellIn.later {w w' : World} (h : CellIn w) (hb : Aside0 (Below w.heap.size w w')) : CellIn w' := by
  obtain ⟨m, hm⟩ := h
  exact ⟨m, (hb.out.cell (p := ⟨0, 0, none⟩) (Addr_lt hm)).trans hm⟩
theorem TabIn.later {w w' : World} (h : TabIn w) (hb : Aside0 (Below w.heap.size w w')) : TabIn w' := var_later h hb
theorem MaxLenIn.later {w w' : World} (h : MaxLenIn w) (hb : Aside0 (Below w.heap.size w w')) : MaxLenIn w' := ⟨h.1.later hb, h.2.later hb⟩
def strconv_Itoa.f (a0 : Int) : Option ByteArray := if -9223372036854775808 ≤ a0 then (if a0 ≤ 9223372036854775807 then some ⟨(Lib.itoa a0).toArray⟩ else none) else none
theorem strconv_Itoa.calls (a0 : Int) (r : ByteArray) (w : World) (h : strconv_Itoa.f a0 = some r) (hM : MaxLenIn w := by first | assumption | exact MaxLenIn.drewN (by assumption) _ | exact MaxLenIn.later (by assumption) (by assumption) | exact MaxLenIn.drewN (MaxLenIn.later (by assumption) (by assumption)) _ | exact MaxLenIn.later (by assumption) ⟨by repeat (first | exact Aside0.out (by assumption) | apply below_alloc | apply pw_below_drewN | apply below_drew1 | refine below_set ?_ (Aside0.out (by assumption)))⟩) :
    Calls Tryz.prog 53 #[.int .i64 a0] w fun e w' => e = .returned (.string r) ∧ Below w.heap.size w w' := by
  unfold strconv_Itoa.f at h
  by_cases h0 : -9223372036854775808 ≤ a0
  case neg => rw [if_neg h0] at h; cases h
  rw [if_pos h0] at h
  by_cases h1 : a0 ≤ 9223372036854775807
  case neg => rw [if_neg h1] at h; cases h
  rw [if_pos h1] at h
  obtain rfl := Option.some.inj h
  refine (Tryz.strconv_Itoa a0 h0 h1 w hM.2).mono ?_
  rintro e w' ⟨rfl, k, os, rfl⟩
  exact ⟨rfl, below_grow_drewN w k os⟩

/-! ### impl_DecText: function 32 -/
def impl_DecText.f (a0 : Int) : Option (ByteArray) := (strconv_Itoa.f a0).bind fun t423 => (some t423)
set_option maxHeartbeats 8000000 in
set_option maxRecDepth 100000 in
theorem impl_DecText.calls (a0 : Int) (r : ByteArray) (w : World) (h : impl_DecText.f a0 = some r) (hM : MaxLenIn w := by first | assumption | exact MaxLenIn.drewN (by assumption) _ | exact MaxLenIn.later (by assumption) (by assumption) | exact MaxLenIn.drewN (MaxLenIn.later (by assumption) (by assumption)) _ | exact MaxLenIn.later (by assumption) ⟨by repeat (first | exact Aside0.out (by assumption) | apply below_alloc | apply pw_below_drewN | apply below_drew1 | refine below_set ?_ (Aside0.out (by assumption)))⟩) :
  Calls Tryz.prog 32 #[.int .i64 a0] w fun e w' => e = .returned (.string r) ∧ Below w.heap.size w w' := by
 have HB := am_ (Below.refl w.heap.size w)
 have H : ((strconv_Itoa.f a0).bind fun t423 => (some t423)) = some r := h
 clear h
 replace H := bsi_ H
 obtain ⟨t423, A20, H⟩ := H
 try dsimp only at H
 have A2 := am_ A20
 clear A20
 obtain rfl := Option.some.inj H
 go_enter Tryz.func32, Tryz.ntmps32
 go_wp2_with (first | ((with_reducible refine gate_callee (f := 53) rfl ?_); refine gsL_ (some 4) Tryz.func53 #[.int .i64 a0] ?_; (with_reducible refine (strconv_Itoa.calls a0 t423 _ A2.out).mono ?_); rintro e w3 ⟨rfl, hb⟩; refine ⟨_, rfl, ?_⟩; replace HB := bs_ hb; (try clear hb)))
 go_ret
 exact ⟨er_, bb_⟩

/-! ### strconv_FormatBool_64: function 64 -/
def strconv_FormatBool_64.f (a0 : Bool) : Option (ByteArray) := if a0 = true then (some (⟨#[116, 114, 117, 101]⟩ : ByteArray)) else (some (⟨#[102, 97, 108, 115, 101]⟩ : ByteArray))
set_option maxHeartbeats 8000000 in
set_option maxRecDepth 100000 in
theorem strconv_FormatBool_64.calls (a0 : Bool) (r : ByteArray) (w : World) (h : strconv_FormatBool_64.f a0 = some r) :
  Calls Tryz.prog 64 #[.bool a0] w fun e w' => e = .returned (.string r) ∧ Drawn0 w w' := by
 have H : (if a0 = true then (some (⟨#[116, 114, 117, 101]⟩ : ByteArray)) else (some (⟨#[102, 97, 108, 115, 101]⟩ : ByteArray))) = some r := h
 clear h
 by_cases c2 : a0 = true
 ·subst c2
  rw [if_pos rfl] at H; obtain rfl := Option.some.inj H
  go_enter Tryz.func64, Tryz.ntmps64
  go_wp2
  go_ret
  (exact ⟨by first | rfl | (simp; done) | (simp [*]; done), by repeat (first | exact Drawn0.refl _ | apply Drawn0.step)⟩)
 ·replace c2 := Bool.eq_false_iff.mpr c2
  subst c2; (rw [if_neg (show ¬ (false = true) by decide)] at H); obtain rfl := Option.some.inj H
  go_enter Tryz.func64, Tryz.ntmps64
  go_wp2
  go_ret
  (exact ⟨by first | rfl | (simp; done) | (simp [*]; done), by repeat (first | exact Drawn0.refl _ | apply Drawn0.step)⟩)

/-! ### strconv_FormatBool_51: function 51 -/
def strconv_FormatBool_51.f (a0 : Bool) : Option (ByteArray) := (strconv_FormatBool_64.f a0).bind fun t424 => (some t424)
set_option maxHeartbeats 8000000 in
set_option maxRecDepth 100000 in
theorem strconv_FormatBool_51.calls (a0 : Bool) (r : ByteArray) (w : World) (h : strconv_FormatBool_51.f a0 = some r) :
  Calls Tryz.prog 51 #[.bool a0] w fun e w' => e = .returned (.string r) ∧ Drawn0 w w' := by
 have H : ((strconv_FormatBool_64.f a0).bind fun t424 => (some t424)) = some r := h
 clear h
 replace H := bsi_ H
 obtain ⟨t424, A20, H⟩ := H
 try dsimp only at H
 have A2 := am_ A20
 clear A20
 obtain rfl := Option.some.inj H
 go_enter Tryz.func51, Tryz.ntmps51
 go_wp2_with (first | ((with_reducible refine gate_callee (f := 64) rfl ?_); refine gsL_ (some 4) Tryz.func64 #[.bool a0] ?_; (with_reducible refine (strconv_FormatBool_64.calls a0 t424 _ A2.out).mono ?_); rintro e w' ⟨rfl, ⟨nd, rfl⟩⟩; refine ⟨_, rfl, ?_⟩))
 go_ret
 exact ⟨by first | rfl | (simp; done) | (simp [*]; done), by repeat (first | exact Drawn0.refl _ | apply Drawn0.step)⟩

/-! ### strings_ReplaceAll: function 52 -/
-- by hand
def strings_ReplaceAll.f (a0 : ByteArray) (a1 : ByteArray) (a2 : ByteArray) : Option ByteArray := if a0.size < 4294967281 ∧ 1 ≤ a1.size ∧ a0.size + Lib.countB a0 a1 * a2.size ≤ 140737488355328 then some ⟨(Lib.replaceAll a0.data.toList a1.data.toList a2.data.toList).toArray⟩ else none
theorem strings_ReplaceAll.calls (a0 : ByteArray) (a1 : ByteArray) (a2 : ByteArray) (r : ByteArray) (w : World) (h : strings_ReplaceAll.f a0 a1 a2 = some r) (hM : MaxLenIn w := by first | assumption | exact MaxLenIn.drewN (by assumption) _ | exact MaxLenIn.later (by assumption) (by assumption) | exact MaxLenIn.drewN (MaxLenIn.later (by assumption) (by assumption)) _ | exact MaxLenIn.later (by assumption) ⟨by repeat (first | exact Aside0.out (by assumption) | apply below_alloc | apply pw_below_drewN | apply below_drew1 | refine below_set ?_ (Aside0.out (by assumption)))⟩) :
    Calls Tryz.prog 52 #[.string a0, .string a1, .string a2] w fun e w' => e = .returned (.string r) ∧ Below w.heap.size w w' := by
  unfold strings_ReplaceAll.f at h
  by_cases hc : a0.size < 4294967281 ∧ 1 ≤ a1.size ∧ a0.size + Lib.countB a0 a1 * a2.size ≤ 140737488355328
  case neg => rw [if_neg hc] at h; cases h
  rw [if_pos hc] at h
  obtain rfl := Option.some.inj h
  obtain ⟨m, hm⟩ := hM.1
  exact Tryz.strings_ReplaceAll a0 a1 a2 m w hc.1 hm hc.2.1 hc.2.2

/-! ### impl_ValueText: function 31 -/
def impl_ValueText.f (a0_0 : Int) (a0_1 : Int) (a0_2 : ByteArray) : Option (ByteArray) := (impl_ValueOk.f a0_0 a0_1 a0_2).bind fun t426 => (if t426 = true then (if a0_0 = 0 then (some (⟨#[110, 117, 108, 108]⟩ : ByteArray)) else (if a0_0 = 1 then ((impl_DecText.f a0_1).bind fun t427 => (some t427)) else (if a0_0 = 2 then ((strconv_FormatBool_51.f (a0_1 == 1)).bind fun t428 => (some t428)) else ((strings_ReplaceAll.f a0_2 (⟨#[39]⟩ : ByteArray) (⟨#[39, 39]⟩ : ByteArray)).bind fun t429 => (if 1 + t429.size ≤ 9223372036854775807 then (if ((⟨#[39]⟩ : ByteArray) ++ t429).size + 1 ≤ 9223372036854775807 then (some (((⟨#[39]⟩ : ByteArray) ++ t429) ++ (⟨#[39]⟩ : ByteArray))) else (none)) else (none)))))) else (some (⟨#[]⟩ : ByteArray)))
set_option maxHeartbeats 8000000 in
set_option maxRecDepth 100000 in
theorem impl_ValueText.calls (a0_0 : Int) (a0_1 : Int) (a0_2 : ByteArray) (r : ByteArray) (w : World) (h : impl_ValueText.f a0_0 a0_1 a0_2 = some r) (hM : MaxLenIn w := by first | assumption | exact MaxLenIn.drewN (by assumption) _ | exact MaxLenIn.later (by assumption) (by assumption) | exact MaxLenIn.drewN (MaxLenIn.later (by assumption) (by assumption)) _ | exact MaxLenIn.later (by assumption) ⟨by repeat (first | exact Aside0.out (by assumption) | apply below_alloc | apply pw_below_drewN | apply below_drew1 | refine below_set ?_ (Aside0.out (by assumption)))⟩) :
  Calls Tryz.prog 31 #[.agg #[.int .i64 a0_0, .int .i64 a0_1, .string a0_2]] w fun e w' => e = .returned (.string r) ∧ Below w.heap.size w w' := by
 have hu50 := Tryz.underlying50
 have HB := am_ (Below.refl w.heap.size w)
 have H : ((impl_ValueOk.f a0_0 a0_1 a0_2).bind fun t426 => (if t426 = true then (if a0_0 = 0 then (some (⟨#[110, 117, 108, 108]⟩ : ByteArray)) else (if a0_0 = 1 then ((impl_DecText.f a0_1).bind fun t427 => (some t427)) else (if a0_0 = 2 then ((strconv_FormatBool_51.f (a0_1 == 1)).bind fun t428 => (some t428)) else ((strings_ReplaceAll.f a0_2 (⟨#[39]⟩ : ByteArray) (⟨#[39, 39]⟩ : ByteArray)).bind fun t429 => (if 1 + t429.size ≤ 9223372036854775807 then (if ((⟨#[39]⟩ : ByteArray) ++ t429).size + 1 ≤ 9223372036854775807 then (some (((⟨#[39]⟩ : ByteArray) ++ t429) ++ (⟨#[39]⟩ : ByteArray))) else (none)) else (none)))))) else (some (⟨#[]⟩ : ByteArray)))) = some r := h
 clear h
 replace H := bsi_ H
 obtain ⟨t426, A20, H⟩ := H
 try dsimp only at H
 have A2 := am_ A20
 clear A20
 by_cases c3 : t426 = true
 ·subst c3
  rw [if_pos rfl] at H
  by_cases c4 : a0_0 = 0
  ·rw [if_pos c4] at H
   have c4b0 : (a0_0 == 0) = true := beq_iff_eq.mpr c4; have c4b1 : (a0_0 != 0) = false := bne_eq_false_iff_eq.mpr c4; clear c4; obtain rfl := Option.some.inj H
   go_enter Tryz.func31, Tryz.ntmps31
   go_wp2_with (first | ((with_reducible refine gate_dst (N := 1) rfl ?_); refine bx_ 1 #[.int .i64 a0_0, .int .i64 a0_1, .string a0_2] 50 ?_; intro gb425 hg w5 hbox hb; have BK425 := am_ (hbox); have GW425 := gw_ hg; have GE425 := gw_ hg; replace HB := bs_ hb; clear hb hbox hg; obtain ⟨hcz6_0, hcz6_1, hcz6_2, hfz6_0, hfz6_1, hfz6_2⟩ := b3_ BK425) | ((with_reducible refine gate_callee (f := 46) rfl ?_); refine gsL_ (some 5) Tryz.func46 #[.agg #[.int .i64 a0_0, .int .i64 a0_1, .string a0_2]] ?_; (with_reducible refine (impl_ValueOk.calls a0_0 a0_1 a0_2 true _ A2.out).mono ?_); rintro e w7 ⟨rfl, hb⟩; refine ⟨_, rfl, ?_⟩; replace BK425 := bkb_ BK425 hb; replace HB := bs_ hb; (try clear hb); obtain ⟨hcz8_0, hcz8_1, hcz8_2, hfz8_0, hfz8_1, hfz8_2⟩ := b3_ BK425))
   go_ret
   exact ⟨er_, bb_⟩
  ·rw [if_neg c4] at H
   have c4b0 : (a0_0 == 0) = false := beq_eq_false_iff_ne.mpr c4; have c4b1 : (a0_0 != 0) = true := bne_iff_ne.mpr c4
   by_cases c9 : a0_0 = 1
   ·rw [if_pos c9] at H
    have c9b0 : (a0_0 == 1) = true := beq_iff_eq.mpr c9; have c9b1 : (a0_0 != 1) = false := bne_eq_false_iff_eq.mpr c9; clear c9; replace H := bsi_ H; obtain ⟨t427, A100, H⟩ := H
    try dsimp only at H
    have A10 := am_ A100; clear A100; obtain rfl := Option.some.inj H
    go_enter Tryz.func31, Tryz.ntmps31
    go_wp2_with (first | ((with_reducible refine gate_dst (N := 1) rfl ?_); refine bx_ 1 #[.int .i64 a0_0, .int .i64 a0_1, .string a0_2] 50 ?_; intro gb425 hg w11 hbox hb; have BK425 := am_ (hbox); have GW425 := gw_ hg; have GE425 := gw_ hg; replace HB := bs_ hb; clear hb hbox hg; obtain ⟨hcz12_0, hcz12_1, hcz12_2, hfz12_0, hfz12_1, hfz12_2⟩ := b3_ BK425) | ((with_reducible refine gate_callee (f := 46) rfl ?_); refine gsL_ (some 5) Tryz.func46 #[.agg #[.int .i64 a0_0, .int .i64 a0_1, .string a0_2]] ?_; (with_reducible refine (impl_ValueOk.calls a0_0 a0_1 a0_2 true _ A2.out).mono ?_); rintro e w13 ⟨rfl, hb⟩; refine ⟨_, rfl, ?_⟩; replace BK425 := bkb_ BK425 hb; replace HB := bs_ hb; (try clear hb); obtain ⟨hcz14_0, hcz14_1, hcz14_2, hfz14_0, hfz14_1, hfz14_2⟩ := b3_ BK425) | ((with_reducible refine gate_callee (f := 32) rfl ?_); refine gsL_ (some 17) Tryz.func32 #[.int .i64 a0_1] ?_; (with_reducible refine (impl_DecText.calls a0_1 t427 _ A10.out).mono ?_); rintro e w15 ⟨rfl, hb⟩; refine ⟨_, rfl, ?_⟩; replace BK425 := bkb_ BK425 hb; replace HB := bs_ hb; (try clear hb)))
    go_ret
    exact ⟨er_, bb_⟩
   ·rw [if_neg c9] at H
    have c9b0 : (a0_0 == 1) = false := beq_eq_false_iff_ne.mpr c9; have c9b1 : (a0_0 != 1) = true := bne_iff_ne.mpr c9
    by_cases c16 : a0_0 = 2
    ·rw [if_pos c16] at H
     have c16b0 : (a0_0 == 2) = true := beq_iff_eq.mpr c16; have c16b1 : (a0_0 != 2) = false := bne_eq_false_iff_eq.mpr c16; clear c16; replace H := bsi_ H; obtain ⟨t428, A170, H⟩ := H
     try dsimp only at H
     have A17 := am_ A170; clear A170; obtain rfl := Option.some.inj H
     go_enter Tryz.func31, Tryz.ntmps31
     go_wp2_with (first | ((with_reducible refine gate_dst (N := 1) rfl ?_); refine bx_ 1 #[.int .i64 a0_0, .int .i64 a0_1, .string a0_2] 50 ?_; intro gb425 hg w18 hbox hb; have BK425 := am_ (hbox); have GW425 := gw_ hg; have GE425 := gw_ hg; replace HB := bs_ hb; clear hb hbox hg; obtain ⟨hcz19_0, hcz19_1, hcz19_2, hfz19_0, hfz19_1, hfz19_2⟩ := b3_ BK425) | ((with_reducible refine gate_callee (f := 46) rfl ?_); refine gsL_ (some 5) Tryz.func46 #[.agg #[.int .i64 a0_0, .int .i64 a0_1, .string a0_2]] ?_; (with_reducible refine (impl_ValueOk.calls a0_0 a0_1 a0_2 true _ A2.out).mono ?_); rintro e w20 ⟨rfl, hb⟩; refine ⟨_, rfl, ?_⟩; replace BK425 := bkb_ BK425 hb; replace HB := bs_ hb; (try clear hb); obtain ⟨hcz21_0, hcz21_1, hcz21_2, hfz21_0, hfz21_1, hfz21_2⟩ := b3_ BK425) | ((with_reducible refine gate_callee (f := 51) rfl ?_); refine gsL_ (some 25) Tryz.func51 #[.bool (a0_1 == 1)] ?_; (with_reducible refine (strconv_FormatBool_51.calls (a0_1 == 1) t428 _ A17.out).mono ?_); rintro e w' ⟨rfl, ⟨nd, rfl⟩⟩; refine ⟨_, rfl, ?_⟩))
     go_ret
     exact ⟨er_, bb_⟩
    ·rw [if_neg c16] at H
     have c16b0 : (a0_0 == 2) = false := beq_eq_false_iff_ne.mpr c16; have c16b1 : (a0_0 != 2) = true := bne_iff_ne.mpr c16; replace H := bsi_ H; obtain ⟨t429, A220, H⟩ := H
     try dsimp only at H
     have A22 := am_ A220; clear A220
     by_cases c23 : 1 + t429.size ≤ 9223372036854775807
     ·rw [if_pos c23] at H
      have c23b0 := eq_true c23; have c23b1 := decide_eq_true c23
      try have c23b2 : (9223372036854775807 < 1 + t429.size) = False := eq_false (Nat.not_lt.2 c23)
      by_cases c24 : ((⟨#[39]⟩ : ByteArray) ++ t429).size + 1 ≤ 9223372036854775807
      ·rw [if_pos c24] at H
       have c24b0 := eq_true c24; have c24b1 := decide_eq_true c24
       try have c24b2 : (9223372036854775807 < ((⟨#[39]⟩ : ByteArray) ++ t429).size + 1) = False := eq_false (Nat.not_lt.2 c24)
       (try (have c24b0z := c24b0; simp only [ByteArray.size_append] at c24b0z)); (try (have c24b1z := c24b1; simp only [ByteArray.size_append] at c24b1z)); (try (have c24b2z := c24b2; simp only [ByteArray.size_append] at c24b2z)); (try (have c24b2y : (9223372036854775807 < 1 + t429.size + 1) = False := by (apply eq_false; have hq_ := c24; simp only [ByteArray.size_append, ByteArray.size_extract] at hq_; have hl0_ : (⟨#[39]⟩ : ByteArray).size = 1 := rfl; omega))); obtain rfl := Option.some.inj H
       go_enter Tryz.func31, Tryz.ntmps31
       go_wp2_with (first | ((with_reducible refine gate_dst (N := 1) rfl ?_); refine bx_ 1 #[.int .i64 a0_0, .int .i64 a0_1, .string a0_2] 50 ?_; intro gb425 hg w25 hbox hb; have BK425 := am_ (hbox); have GW425 := gw_ hg; have GE425 := gw_ hg; replace HB := bs_ hb; clear hb hbox hg; obtain ⟨hcz26_0, hcz26_1, hcz26_2, hfz26_0, hfz26_1, hfz26_2⟩ := b3_ BK425) | ((with_reducible refine gate_callee (f := 46) rfl ?_); refine gsL_ (some 5) Tryz.func46 #[.agg #[.int .i64 a0_0, .int .i64 a0_1, .string a0_2]] ?_; (with_reducible refine (impl_ValueOk.calls a0_0 a0_1 a0_2 true _ A2.out).mono ?_); rintro e w27 ⟨rfl, hb⟩; refine ⟨_, rfl, ?_⟩; replace BK425 := bkb_ BK425 hb; replace HB := bs_ hb; (try clear hb); obtain ⟨hcz28_0, hcz28_1, hcz28_2, hfz28_0, hfz28_1, hfz28_2⟩ := b3_ BK425) | ((with_reducible refine gate_callee (f := 52) rfl ?_); refine gsL_ (some 28) Tryz.func52 #[.string a0_2, .string (⟨#[39]⟩ : ByteArray), .string (⟨#[39, 39]⟩ : ByteArray)] ?_; (with_reducible refine (strings_ReplaceAll.calls a0_2 (⟨#[39]⟩ : ByteArray) (⟨#[39, 39]⟩ : ByteArray) t429 _ A22.out).mono ?_); rintro e w29 ⟨rfl, hb⟩; refine ⟨_, rfl, ?_⟩; replace BK425 := bkb_ BK425 hb; replace HB := bs_ hb; (try clear hb)))
       go_ret
       exact ⟨er_, bb_⟩
      ·rw [if_neg c24] at H
       exact nn_ H
     ·rw [if_neg c23] at H
      exact nn_ H
 ·replace c3 := Bool.eq_false_iff.mpr c3
  subst c3; (rw [if_neg (show ¬ (false = true) by decide)] at H); obtain rfl := Option.some.inj H
  go_enter Tryz.func31, Tryz.ntmps31
  go_wp2_with (first | ((with_reducible refine gate_dst (N := 1) rfl ?_); refine bx_ 1 #[.int .i64 a0_0, .int .i64 a0_1, .string a0_2] 50 ?_; intro gb425 hg w30 hbox hb; have BK425 := am_ (hbox); have GW425 := gw_ hg; have GE425 := gw_ hg; replace HB := bs_ hb; clear hb hbox hg; obtain ⟨hcz31_0, hcz31_1, hcz31_2, hfz31_0, hfz31_1, hfz31_2⟩ := b3_ BK425) | ((with_reducible refine gate_callee (f := 46) rfl ?_); refine gsL_ (some 5) Tryz.func46 #[.agg #[.int .i64 a0_0, .int .i64 a0_1, .string a0_2]] ?_; (with_reducible refine (impl_ValueOk.calls a0_0 a0_1 a0_2 false _ A2.out).mono ?_); rintro e w32 ⟨rfl, hb⟩; refine ⟨_, rfl, ?_⟩; replace BK425 := bkb_ BK425 hb; replace HB := bs_ hb; (try clear hb)))
  go_ret
  exact ⟨er_, bb_⟩

/-! ### strings_Join: function 33 -/
-- by hand
def strings_Join.f (l0 : List ByteArray) (a1 : ByteArray) : Option ByteArray := if (Lib.join (l0.map (·.data.toList)) a1.data.toList).length ≤ 140737488355328 ∧ l0.length ≤ 140737488355328 then some ⟨(Lib.join (l0.map (·.data.toList)) a1.data.toList).toArray⟩ else none
theorem strings_Join.calls (A0 : Option Addr) (c0 : Nat) (l0 : List ByteArray) (a1 : ByteArray) (r : ByteArray) (w : World) (hr0 : Kd.C Kd.string w A0 l0.length l0) (hc0 : l0.length ≤ c0) (h : strings_Join.f l0 a1 = some r) :
    Calls Tryz.prog 33 #[.slice A0 l0.length c0, .string a1] w fun e w' => e = .returned (.string r) ∧ Below w.heap.size w w' := by
  unfold strings_Join.f at h
  by_cases hc : (Lib.join (l0.map (·.data.toList)) a1.data.toList).length ≤ 140737488355328 ∧ l0.length ≤ 140737488355328
  case neg => rw [if_neg hc] at h; cases h
  rw [if_pos hc] at h
  obtain rfl := Option.some.inj h
  clear h
  cases l0 with
  | nil =>
    refine (Tryz.strings_Join_none A0 c0 a1 w).mono ?_
    rintro e w' ⟨rfl, rfl⟩
    exact ⟨rfl, Below.refl _ _⟩
  | cons x xs =>
    have hat : ∀ j : Nat, j < (x :: xs).length → ∃ ad, A0 = some ad ∧ w.cell? (ad.add j) = some (.string ((x :: xs).getD j ByteArray.empty)) := fun j hj => Kd.at_string hr0 (j : Int) (by omega) (by omega)
    obtain ⟨ad, rfl, h0⟩ := hat 0 (by simp)
    have hz : ad.add 0 = ad := by unfold Addr.add; exact if_pos rfl
    rw [hz] at h0
    obtain ⟨bk, o, sp⟩ := ad
    have hsp : sp = none := by
      cases sp with
      | none => rfl
      | some s =>
        exfalso
        unfold World.cell? at h0
        revert h0
        cases w.heap[bk]? with
        | none => simp
        | some ob => cases ob <;> simp
    subst hsp
    refine Tryz.strings_Join bk o c0 (x :: xs) a1 w ?_ (World.block_lt_of_cell? w _ h0) hc.2 hc0 hc.1
    intro j y hy
    have hj : j < (x :: xs).length := by
      rcases Nat.lt_or_ge j (x :: xs).length with g | g
      · exact g
      · rw [List.getElem?_eq_none g] at hy; cases hy
    obtain ⟨ad, e, hcell⟩ := hat j hj
    obtain rfl := Option.some.inj e
    have ha : (⟨bk, o, none⟩ : Addr).add j = ⟨bk, o + j, none⟩ := by
      unfold Addr.add
      by_cases g : j = 0
      · rw [if_pos g, g]
        rfl
      · rw [if_neg g]
    rw [ha, List.getD_eq_getElem?_getD, hy] at hcell
    exact hcell
/-! ### impl_BagText: function 12 -/
-- by hand
mutual
def impl_BagText.l0 : Nat → ByteArray → List (S47) → Int → Int → Option (ByteArray)
 | 0, _, _, _, _ => none
 | k + 1, x3, x13, x14, x15 => if x15 < x14 then (if 0 ≤ x15 then (if x15 < (x13.length : Int) then (impl_BagText.l1 k x3 ([] : List ByteArray) x13 x14 x15 ((rd_T47 x13 x15).f0) (((rd_T47 x13 x15).f0).length : Int) 0 ((rd_T47 x13 x15).f0) ((rd_T47 x13 x15).f1)) else (none)) else (none)) else (some x3)
def impl_BagText.l1 : Nat → ByteArray → List ByteArray → List (S47) → Int → Int → List (S50) → Int → Int → List (S50) → Int → Option (ByteArray)
 | 0, _, _, _, _, _, _, _, _, _, _ => none
 | k + 1, x3, x6, x13, x14, x15, x20, x21, x22, x206000, x206001 => if x22 < x21 then (if 0 ≤ x22 then (if x22 < (x20.length : Int) then ((impl_ValueText.f ((rd_T50 x20 x22).f0) ((rd_T50 x20 x22).f1) ((rd_T50 x20 x22).f2)).bind fun t208 => (if x6.length < 8796093022208 then (impl_BagText.l1 k x3 (x6 ++ [t208]) x13 x14 x15 x20 x21 (wrap64 (x22 + 1)) x206000 x206001) else (none))) else (none)) else (none)) else ((impl_DecText.f x206001).bind fun t212 => (if t212.size + 2 ≤ 9223372036854775807 then ((strings_Join.f x6 (⟨#[44]⟩ : ByteArray)).bind fun t213 => (if (t212 ++ (⟨#[120, 32]⟩ : ByteArray)).size + t213.size ≤ 9223372036854775807 then (if ((t212 ++ (⟨#[120, 32]⟩ : ByteArray)) ++ t213).size + 1 ≤ 9223372036854775807 then (if x3.size + (((t212 ++ (⟨#[120, 32]⟩ : ByteArray)) ++ t213) ++ (⟨#[10]⟩ : ByteArray)).size ≤ 140737488355328 then (impl_BagText.l0 k (x3 ++ (((t212 ++ (⟨#[120, 32]⟩ : ByteArray)) ++ t213) ++ (⟨#[10]⟩ : ByteArray))) x13 x14 (wrap64 (x15 + 1))) else (none)) else (none)) else (none))) else (none)))
end
def impl_BagText.f (k : Nat) (a0_0 : Int) (l0_1 : List (S47)) : Option (ByteArray) := (impl_BagOk.f k a0_0 l0_1).bind fun t203 => (if t203 = true then (impl_BagText.l0 k (⟨#[]⟩ : ByteArray) l0_1 (l0_1.length : Int) 0) else (some (⟨#[]⟩ : ByteArray)))
theorem isBt_new {T e : TypeId} {b : Nat} {W : World} (h : W.heap[b]? = some (.cells #[.pointer none, .slice none 0 0] T (0, 0))) : Lib.IsBuilderF T e b b [] W :=
 Lib.IsBuilderF.of (Or.inl ⟨Nat.le_refl _, .slice none 0 0, h, World.ownsRow_nil _ _ _ _, by simp [Value.ownBlock]⟩)
theorem isBt_below {T e : TypeId} {B b : Nat} {bs : List Value} {W W' : World} (h : Lib.IsBuilderF T e B b bs W) (hb : Below W.heap.size W W') : Lib.IsBuilderF T e B b bs W' := by
 have one : ∀ p, Lib.BuilderAtF T e B b p bs W → Lib.BuilderAtF T e B b p bs W' := fun p h => by
  have hlt := h.lt
  obtain ⟨hB, v, hv, hown, hne⟩ := h
  exact ⟨hB, v, (hb.block b hlt).trans hv, hown.kept (row := none) ⟨hb.os, hb.tape, hb.output, hb.size, fun k hk _ => hb.block k hk⟩ (Classical.em _), hne⟩
 exact h.elim (fun x => .inl (one _ x)) (fun x => .inr (one _ x))
theorem isBt_lt {T e : TypeId} {B b : Nat} {bs : List Value} {W : World} (h : Lib.IsBuilderF T e B b bs W) : b < W.heap.size := h.elim (fun x => x.lt) (fun x => x.lt)
theorem isBt_more {T e : TypeId} {B b : Nat} {x s : ByteArray} {W : World} (h : Lib.BuilderAtF T e B b (.pointer (some ⟨b, 0, none⟩)) (Lib.byteCells x.data.toList ++ Lib.strCells s) W) : Lib.IsBuilderF T e B b (Lib.byteCells (x ++ s).data.toList) W := by
 rw [ByteArray.data_append, Array.toList_append, Lib.byteCells_append, ← Lib.strCells_eq s]
 exact Or.inr h
set_option maxHeartbeats 8000000 in
set_option maxRecDepth 100000 in
theorem impl_BagText.calls (k : Nat) (a0_0 : Int) (A0_1 : Option Addr) (c0_1 : Nat) (l0_1 : List (S47)) (r : ByteArray) (w : World) (hr0_1 : Kd.C k47 w A0_1 l0_1.length l0_1) (hc0_1 : l0_1.length ≤ c0_1) (h : impl_BagText.f k a0_0 l0_1 = some r) (hM : MaxLenIn w := by first | assumption | exact MaxLenIn.drewN (by assumption) _ | exact MaxLenIn.later (by assumption) (by assumption) | exact MaxLenIn.drewN (MaxLenIn.later (by assumption) (by assumption)) _ | exact MaxLenIn.later (by assumption) ⟨by repeat (first | exact Aside0.out (by assumption) | apply below_alloc | apply pw_below_drewN | apply below_drew1 | refine below_set ?_ (Aside0.out (by assumption)))⟩) :
  Calls Tryz.prog 12 #[.agg #[.int .i64 a0_0, .slice A0_1 l0_1.length c0_1]] w fun e w' => e = .returned (.string r) ∧ Below w.heap.size w w' := by
 have hu26 := Tryz.underlying26
 have hu47 := Tryz.underlying47
 have hu50 := Tryz.underlying50
 have HR0_1 := am_ hr0_1
 have HC0_1 := am_ hc0_1
 clear hr0_1 hc0_1
 have HB := am_ (Below.refl w.heap.size w)
 have H : ((impl_BagOk.f k a0_0 l0_1).bind fun t203 => (if t203 = true then (impl_BagText.l0 k (⟨#[]⟩ : ByteArray) l0_1 (l0_1.length : Int) 0) else (some (⟨#[]⟩ : ByteArray)))) = some r := h
 clear h
 replace H := bsi_ H
 obtain ⟨t203, A20, H⟩ := H
 try dsimp only at H
 have A2 := am_ A20
 clear A20
 by_cases c3 : t203 = true
 ·subst c3
  rw [if_pos rfl] at H
  have H' := am_ H
  clear H
  go_enter Tryz.func12, Tryz.ntmps12
  go_wp2_with (first | ((with_reducible refine gate_dst (N := 1) rfl ?_); refine bx_ 1 #[.int .i64 a0_0, .slice A0_1 l0_1.length c0_1] 26 ?_; intro gb202 hg w4 hbox hb; have BK202 := am_ (hbox); have GW202 := gw_ hg; have GE202 := gw_ hg; replace HB := bs_ hb; clear hb hbox hg; obtain ⟨hcz5_0, hcz5_1, hfz5_0, hfz5_1⟩ := b2_ BK202) | ((with_reducible refine gate_callee (f := 17) rfl ?_); refine gsL_ (some 10) Tryz.func17 #[.agg #[.int .i64 a0_0, .slice A0_1 l0_1.length c0_1]] ?_; (with_reducible refine (impl_BagOk.calls k a0_0 _ _ l0_1 true _ ?side1 ?side2 A2.out).mono ?_); (case side1 => exact ck_ (Kd.C_below HR0_1.out HB.out)); (case side2 => exact HC0_1.out); rintro e w6 ⟨rfl, hb⟩; refine ⟨_, rfl, ?_⟩; replace BK202 := bkb_ BK202 hb; replace HB := bs_ hb; (try clear hb); (try clear hb2); (try clear hk); (try clear hi); obtain ⟨hcz7_0, hcz7_1, hfz7_0, hfz7_1⟩ := b2_ BK202) | ((with_reducible refine gate_dst (N := 3) rfl ?_); refine bx_ 3 #[.pointer none, .slice none 0 0] 39 ?_; intro gb3 hg w8 hbox hb; have LT202 := am_ (show gb202 < gb3 by rw [hg]; exact blk_lt (bkx_ BK202.out)); have LW6 := gw_ hg; have IB := am_ (isBt_new (e := 5) hbox); replace BK202 := bkb_ BK202 hb; replace HB := bs_ hb; clear hb hbox hg; obtain ⟨hcz9_0, hcz9_1, hfz9_0, hfz9_1⟩ := b2_ BK202))
  go_loopg [15] k (fun kq v15 w' => ∃ (x3_1 : ByteArray) (x15_1 : Int), v15 = .int .i64 x15_1 ∧ Aside0 (impl_BagText.l0 kq x3_1 l0_1 (l0_1.length : Int) x15_1 = some r) ∧ Aside0 (kq ≤ k) ∧ Aside0 (w'.heap[gb202]? = some (.cells #[.int .i64 a0_0, (.slice A0_1 l0_1.length c0_1)] 26 (0, 0))) ∧ Aside0 (Lib.IsBuilderF 39 5 gb3 gb3 (Lib.byteCells x3_1.data.toList) w') ∧ Aside0 (Below w.heap.size w w'))
  case atStart => exact ⟨((⟨#[]⟩ : ByteArray)), (0), rs_, H', ⟨Nat.le_refl _⟩, ⟨bkx_ BK202.out⟩, IB, ⟨bb_⟩⟩
  case round =>
   clear H'
   try clear p2
   try clear c3
   try clear c7
   try clear hcz5_0
   try clear hcz5_1
   try clear hcz7_0
   try clear hcz9_0
   try clear hcz9_1
   try clear hfz9_0
   try clear hfz9_1
   try clear hcz7_1
   try clear hfz5_0
   try clear hfz5_1
   try clear hfz7_0
   try clear hfz7_1
   obtain ⟨x3_1, x15_1, rfl, HA, HK1, BK202, IB, HB⟩ := hrel
   obtain ⟨W1, hW1⟩ : ∃ W1, W1 = wr := ⟨wr, rfl⟩
   subst hW1
   cases gk with
   | zero => exact absurd HA.out (by simp [impl_BagText.l0])
   | succ k1 =>
    have H := HA.out
    clear HA
    simp only [impl_BagText.l0] at H
    by_cases c8 : x15_1 < (l0_1.length : Int)
    ·rw [if_pos c8] at H
     have c8b0 := decide_eq_true c8
     clear c8
     by_cases c9 : 0 ≤ x15_1
     ·rw [if_pos c9] at H
      have c9b0 := decide_eq_true c9
      clear c9
      by_cases c10 : x15_1 < (l0_1.length : Int)
      ·rw [if_pos c10] at H
       have c10b0 := decide_eq_true c10
       clear c10
       have HBo := HB
       have hMo := hM
       replace hM : MaxLenIn W1 := MaxLenIn.later hMo HBo
       have HR0w := am_ (Kd.C_below HR0_1.out HB.out)
       clear hMo
       replace HB := am_ (Below.refl W1.heap.size W1)
       have H' := am_ H
       clear H
       have p204 : 0 ≤ (x15_1 : Int) := oa_
       have q204 : x15_1 < (l0_1.length : Int) := oa_
       obtain ⟨ad204, A204_0, c204_0, e204, hx204_0, hx204_1, hl204_0, hi204_0⟩ := at_T47 HR0w.out x15_1 p204 q204
       cases e204
       replace hx204_0 := hb_ HB hx204_0
       replace hx204_1 := hb_ HB hx204_1
       have HR204_0 := am_ hi204_0
       have HC204_0 := am_ hl204_0
       clear hi204_0 hl204_0
       replace p204 := eq_true p204
       replace q204 := eq_true q204
       go_wp2_with (first | ((with_reducible refine gate_dst (N := 5) rfl ?_); refine bx_ 5 #[.slice none 0 0, .int .i64 0] 47 ?_; intro gb205 hg w11 hbox hb; have BK205 := am_ (hbox); have GW205 := gw_ hg; have GE205 := gw_ hg; have NB202_205 := nl_ hg BK202; have NB205_202 := ng_ hg BK202; replace BK202 := bkb_ BK202 hb; replace HB := bs_ hb; clear hb hbox hg; have hnb12 := NB205_202.out; have hnc12 := NB202_205.out; obtain ⟨hcz13_0, hcz13_1, hfz13_0, hfz13_1⟩ := b2_ BK205))
       go_loopg [6, 22] k1 (fun kq v6 v22 w' => ∃ (x6_2 : List ByteArray) (x22_2 : Int), v22 = .int .i64 x22_2 ∧ Aside0 (impl_BagText.l1 kq x3_1 x6_2 l0_1 (l0_1.length : Int) x15_1 ((rd_T47 l0_1 x15_1).f0) (((rd_T47 l0_1 x15_1).f0).length : Int) x22_2 ((rd_T47 l0_1 x15_1).f0) ((rd_T47 l0_1 x15_1).f1) = some r) ∧ Aside0 (kq ≤ k1) ∧ Aside0 (Kd.R Kd.string 9 w' W1.heap.size (fun _ => True) v6 x6_2) ∧ Aside0 (w'.heap[gb202]? = some (.cells #[.int .i64 a0_0, (.slice (some ad204) l0_1.length c0_1)] 26 (0, 0))) ∧ Aside0 (w'.heap[gb205]? = some (.cells #[(.slice A204_0 ((rd_T47 l0_1 x15_1).f0).length c204_0), .int .i64 ((rd_T47 l0_1 x15_1).f1)] 47 (0, 0))) ∧ Aside0 (Below W1.heap.size W1 w'))
       case atStart => exact ⟨(([] : List ByteArray)), (0), rs_, H', ⟨Nat.le_refl _⟩, ⟨by first | exact Kd.R_nil _ _ _ _ _ | exact Kd.N_nil _ _ _ _ _ | exact Kd.V_nil _ _ _ _ _ | exact Kd.Q_nil _ _ _ _ _ | exact Kd.S_nil _ _ _ _ _⟩, ⟨(bf2_ NB202_205 (bkx_ BK202.out))⟩, ⟨(bp2_ (bkx_ BK205.out))⟩, ⟨bb_⟩⟩
       case round =>
        clear H'
        try clear c1
        try clear c2
        try clear p2
        try clear q2
        try clear hx2
        try clear c3
        try clear c7
        try clear c8
        try clear c8b0
        try clear c9
        try clear c9b0
        try clear c10
        try clear c10b0
        try clear c12
        try clear hcz13_0
        try clear hcz13_1
        try clear hcz5_0
        try clear hcz5_1
        try clear hcz7_0
        try clear hcz7_1
        try clear hfz13_0
        try clear hfz13_1
        try clear hfz5_0
        try clear hfz5_1
        try clear hfz7_0
        try clear hfz7_1
        try clear hx204_0
        try clear hx204_1
        try clear p2
        try clear p204
        try clear q204
        obtain ⟨x6_2, x22_2, rfl, HA, HK2, HO_6, BK202, BK205, HB⟩ := hrel
        cases gk with
        | zero => exact absurd HA.out (by simp [impl_BagText.l1])
        | succ k2 =>
         have H := HA.out
         clear HA
         simp only [impl_BagText.l1] at H
         by_cases c14 : x22_2 < (((rd_T47 l0_1 x15_1).f0).length : Int)
         ·rw [if_pos c14] at H
          have c14b0 := decide_eq_true c14
          clear c14
          by_cases c15 : 0 ≤ x22_2
          ·rw [if_pos c15] at H
           have c15b0 := decide_eq_true c15
           clear c15
           by_cases c16 : x22_2 < (((rd_T47 l0_1 x15_1).f0).length : Int)
           ·rw [if_pos c16] at H
            have c16b0 := decide_eq_true c16
            clear c16
            replace H := bsi_ H
            obtain ⟨t208, A170, H⟩ := H
            try dsimp only at H
            have A17 := am_ A170
            clear A170
            by_cases c18 : x6_2.length < 8796093022208
            ·rw [if_pos c18] at H
             have LMc18 := am_ c18
             clear c18
             obtain ⟨y209, hy209⟩ : ∃ y_ : List ByteArray, y_ = (x6_2 ++ [t208]) := ⟨_, rfl⟩
             replace H : (impl_BagText.l1 k2 x3_1 y209 l0_1 (l0_1.length : Int) x15_1 ((rd_T47 l0_1 x15_1).f0) (((rd_T47 l0_1 x15_1).f0).length : Int) (wrap64 (x22_2 + 1)) ((rd_T47 l0_1 x15_1).f0) ((rd_T47 l0_1 x15_1).f1)) = some r := by first | (rw [hy209]; with_reducible exact H) | (have H2_ := (Option.bind_some _ _).symm.trans H; rw [hy209]; with_reducible exact H2_) | (have H2_ := (Option.bind_some _ _).symm.trans H; with_reducible exact H2_) | with_reducible exact H | (rw [hy209]; exact H) | exact H
             have Ny209 := am_ hy209
             clear hy209
             have H' := am_ H
             clear H
             have p206 : 0 ≤ (x22_2 : Int) := oa_
             have q206 : x22_2 < (((rd_T47 l0_1 x15_1).f0).length : Int) := oa_
             obtain ⟨ad206, e206, hx206_0, hx206_1, hx206_2⟩ := at_T50 HR204_0.out x22_2 p206 q206
             cases e206
             replace hx206_0 := hb_ HB hx206_0
             replace hx206_1 := hb_ HB hx206_1
             replace hx206_2 := hb_ HB hx206_2
             replace p206 := eq_true p206
             replace q206 := eq_true q206
             go_wp2_with (first | ((with_reducible refine gate_dst (N := 8) rfl ?_); refine bx_ 8 #[.int .i64 0, .int .i64 0, .string (⟨#[]⟩ : ByteArray)] 50 ?_; intro gb207 hg w19 hbox hb; have BK207 := am_ (hbox); have GW207 := gw_ hg; have GE207 := gw_ hg; have NB202_207 := nl_ hg BK202; have NB207_202 := ng_ hg BK202; have NB205_207 := nl_ hg BK205; have NB207_205 := ng_ hg BK205; replace HO_6 := am_ (Kd.R_below (rk_ HO_6.out) hb); replace BK202 := bkb_ BK202 hb; replace BK205 := bkb_ BK205 hb; replace HB := bs_ hb; clear hb hbox hg; have hnb20 := NB207_202.out; have hnc20 := NB202_207.out; have hnb21 := NB207_205.out; have hnc21 := NB205_207.out; obtain ⟨hcz22_0, hcz22_1, hcz22_2, hfz22_0, hfz22_1, hfz22_2⟩ := b3_ BK207) | ((with_reducible refine gate_callee (f := 31) rfl ?_); refine gsL_ (some 28) Tryz.func31 #[.agg #[.int .i64 ((rd_T50 ((rd_T47 l0_1 x15_1).f0) x22_2).f0), .int .i64 ((rd_T50 ((rd_T47 l0_1 x15_1).f0) x22_2).f1), .string ((rd_T50 ((rd_T47 l0_1 x15_1).f0) x22_2).f2)]] ?_; (with_reducible refine (impl_ValueText.calls ((rd_T50 ((rd_T47 l0_1 x15_1).f0) x22_2).f0) ((rd_T50 ((rd_T47 l0_1 x15_1).f0) x22_2).f1) ((rd_T50 ((rd_T47 l0_1 x15_1).f0) x22_2).f2) t208 _ A17.out).mono ?_); rintro e w23 ⟨rfl, hb⟩; refine ⟨_, rfl, ?_⟩; have n0_ := am_ (Kd.R_below (rk_ (Kd.R_mono (Kd.R_far (p := ⟨gb207, 2, none⟩) (Kd.R_far (p := ⟨gb207, 1, none⟩) (Kd.R_far (p := ⟨gb207, 0, none⟩) (Kd.R_types HO_6.out BK207.out (by decide)) (fun _ hk => hk.2) (.int .i64 ((rd_T50 ((rd_T47 l0_1 x15_1).f0) x22_2).f0))) (fun _ hk => hk.2) (.int .i64 ((rd_T50 ((rd_T47 l0_1 x15_1).f0) x22_2).f1))) (fun _ hk => hk.2) (.string ((rd_T50 ((rd_T47 l0_1 x15_1).f0) x22_2).f2))) (fun _ h_ => h_.1))) hb); have n1_ := am_ (blk_below (g := gb202) (o := .cells #[.int .i64 a0_0, .slice (some ad204) l0_1.length c0_1] 26 (0, 0)) (bf3_ NB202_207 (bkx_ BK202.out)) hb); have n2_ := am_ (blk_below (g := gb205) (o := .cells #[.slice (some ad206) ((rd_T47 l0_1 x15_1).f0).length c204_0, .int .i64 ((rd_T47 l0_1 x15_1).f1)] 47 (0, 0)) (bf3_ NB205_207 (bkx_ BK205.out)) hb); have n3_ := am_ (blk_below (g := gb207) (o := .cells #[.int .i64 ((rd_T50 ((rd_T47 l0_1 x15_1).f0) x22_2).f0), .int .i64 ((rd_T50 ((rd_T47 l0_1 x15_1).f0) x22_2).f1), .string ((rd_T50 ((rd_T47 l0_1 x15_1).f0) x22_2).f2)] 50 (0, 0)) (bp3_ (bkx_ BK207.out)) hb); have n4_ := bs_ hb; clear HO_6; clear BK202; clear BK205; clear BK207; clear HB; have HO_6 := n0_; have BK202 := n1_; have BK205 := n2_; have BK207 := n3_; have HB := n4_; clear n0_ n1_ n2_ n3_ n4_; (try clear hb); (try clear hb2); (try clear hk); (try clear hi)) | ((with_reducible refine gate_builtin (b := .append) (xs := #[.tmp 26, .tmp 29]) rfl ?_); at_builtin; refine Kd.R_append Kd.string (w0 := W1) W1.heap.size rfl (.tmp 26) (.tmp 29) 55 9 (.string ⟨#[]⟩) 16 rfl Tryz.underlying55 info9 rfl (by decide) (by omega) u6 x6_2 t208 [.string t208] (fun _ => True) (fun _ => False) rfl rfl ?aP (fun _ hk => hk.elim) ?aF ?aO ?aB ?aS ?aL ?_; (case aP => exact rfl); (case aB => exact bb_); (case aF => exact (fun _ _ => trivial)); (case aO => exact (rk_ HO_6.out)); (case aS => exact (below_size bb_)); (case aL => have := LMc18.out; omega); intro v210 w24 ho hb hg hat; rw [← Ny209.out] at ho; have HO211 := am_ (ho); replace BK202 := am_ (blk_grown (g := gb202) (o := .cells #[.int .i64 a0_0, .slice (some ad204) l0_1.length c0_1] 26 (0, 0)) (bkx_ BK202.out) hg (Kd.R_ne HO_6.out BK202.out (by decide))); replace BK205 := am_ (blk_grown (g := gb205) (o := .cells #[.slice (some ad206) ((rd_T47 l0_1 x15_1).f0).length c204_0, .int .i64 ((rd_T47 l0_1 x15_1).f1)] 47 (0, 0)) (bkx_ BK205.out) hg (Kd.R_ne HO_6.out BK205.out (by decide))); replace BK207 := am_ (blk_grown (g := gb207) (o := .cells #[.int .i64 ((rd_T50 ((rd_T47 l0_1 x15_1).f0) x22_2).f0), .int .i64 ((rd_T50 ((rd_T47 l0_1 x15_1).f0) x22_2).f1), .string ((rd_T50 ((rd_T47 l0_1 x15_1).f0) x22_2).f2)] 50 (0, 0)) (bkx_ BK207.out) hg (Kd.R_ne HO_6.out BK207.out (by decide))); replace HB := am_ (hb); clear HO_6; clear ho hb hg hat))
             go_roundg k2
             case measure => have := HK1.out; have := HK2.out; omega
             case rel => exact ⟨(y209), (wrap64 (x22_2 + 1)), rs_, H', ⟨by have := HK1.out; have := HK2.out; omega⟩, ⟨by (with_reducible repeat (first | apply Kd.R_alloc | apply Kd.R_drewN | apply Kd.R_drew)); exact HO211.out⟩, ⟨bkx_ BK202.out⟩, ⟨bkx_ BK205.out⟩, ⟨bb_⟩⟩
            ·rw [if_neg c18] at H
             exact nn_ H
           ·rw [if_neg c16] at H
            exact nn_ H
          ·rw [if_neg c15] at H
           exact nn_ H
         ·rw [if_neg c14] at H
          have c14b0 := decide_eq_false c14
          clear c14
          replace H := bsi_ H
          obtain ⟨t212, A250, H⟩ := H
          try dsimp only at H
          have A25 := am_ A250
          clear A250
          by_cases c26 : t212.size + 2 ≤ 9223372036854775807
          ·rw [if_pos c26] at H
           have c26b0 := eq_true c26
           have c26b1 := decide_eq_true c26
           try have c26b2 : (9223372036854775807 < t212.size + 2) = False := eq_false (Nat.not_lt.2 c26)
           replace H := bsi_ H
           obtain ⟨t213, A270, H⟩ := H
           try dsimp only at H
           have A27 := am_ A270
           clear A270
           by_cases c28 : (t212 ++ (⟨#[120, 32]⟩ : ByteArray)).size + t213.size ≤ 9223372036854775807
           ·rw [if_pos c28] at H
            have c28b0 := eq_true c28
            have c28b1 := decide_eq_true c28
            try have c28b2 : (9223372036854775807 < (t212 ++ (⟨#[120, 32]⟩ : ByteArray)).size + t213.size) = False := eq_false (Nat.not_lt.2 c28)
            (try (have c28b0z := c28b0; simp only [ByteArray.size_append] at c28b0z))
            (try (have c28b1z := c28b1; simp only [ByteArray.size_append] at c28b1z))
            (try (have c28b2z := c28b2; simp only [ByteArray.size_append] at c28b2z))
            (try (have c28b2y : (9223372036854775807 < t212.size + 2 + t213.size) = False := by (apply eq_false; have hq_ := c28; simp only [ByteArray.size_append, ByteArray.size_extract] at hq_; have hl0_ : (⟨#[120, 32]⟩ : ByteArray).size = 2 := rfl; omega)))
            by_cases c29 : ((t212 ++ (⟨#[120, 32]⟩ : ByteArray)) ++ t213).size + 1 ≤ 9223372036854775807
            ·rw [if_pos c29] at H
             have c29b0 := eq_true c29
             have c29b1 := decide_eq_true c29
             try have c29b2 : (9223372036854775807 < ((t212 ++ (⟨#[120, 32]⟩ : ByteArray)) ++ t213).size + 1) = False := eq_false (Nat.not_lt.2 c29)
             (try (have c29b0z := c29b0; simp only [ByteArray.size_append] at c29b0z))
             (try (have c29b1z := c29b1; simp only [ByteArray.size_append] at c29b1z))
             (try (have c29b2z := c29b2; simp only [ByteArray.size_append] at c29b2z))
             (try (have c29b2y : (9223372036854775807 < t212.size + 2 + t213.size + 1) = False := by (apply eq_false; have hq_ := c29; simp only [ByteArray.size_append, ByteArray.size_extract] at hq_; have hl0_ : (⟨#[120, 32]⟩ : ByteArray).size = 2 := rfl; omega)))
             by_cases c30 : x3_1.size + (((t212 ++ (⟨#[120, 32]⟩ : ByteArray)) ++ t213) ++ (⟨#[10]⟩ : ByteArray)).size ≤ 140737488355328
             ·rw [if_pos c30] at H
              have LMc30 := am_ c30
              clear c30
              have H' := am_ H
              clear H
              have hnb31 := NB205_202.out
              have hnc31 := NB202_205.out
              have hcz32_0 : wr.cell? ⟨gb205, 0, none⟩ = some (.slice A204_0 ((rd_T47 l0_1 x15_1).f0).length c204_0) := bc_ BK205 0
              have hcz32_1 : wr.cell? ⟨gb205, 1, none⟩ = some (.int .i64 ((rd_T47 l0_1 x15_1).f1)) := bc_ BK205 1
              have hfz32_0 := blk_frozen BK205.out 0
              have hfz32_1 := blk_frozen BK205.out 1
              go_wp2_with (first | ((with_reducible refine gate_callee (f := 32) rfl ?_); refine gsL_ (some 34) Tryz.func32 #[.int .i64 ((rd_T47 l0_1 x15_1).f1)] ?_; (with_reducible refine (impl_DecText.calls ((rd_T47 l0_1 x15_1).f1) t212 _ A25.out).mono ?_); rintro e w33 ⟨rfl, hb⟩; refine ⟨_, rfl, ?_⟩; replace HO_6 := am_ (Kd.R_below (rk_ HO_6.out) hb); replace BK202 := bkb_ BK202 hb; replace BK205 := bkb_ BK205 hb; replace HB := bs_ hb; (try clear hb); (try clear hb2); (try clear hk); (try clear hi); obtain ⟨Ao34, co34, eo34⟩ := Kd.R_slice HO_6.out; subst eo34) | ((with_reducible refine gate_callee (f := 33) rfl ?_); refine gsL_ (some 37) Tryz.func33 #[.slice Ao34 x6_2.length co34, .string (⟨#[44]⟩ : ByteArray)] ?_; (with_reducible refine (strings_Join.calls _ _ x6_2 (⟨#[44]⟩ : ByteArray) t213 _ ?side1 ?side2 A27.out).mono ?_); (case side1 => exact ck_ (Kd.R_reads' HO_6.out).2.2); (case side2 => exact (Kd.R_reads' HO_6.out).2.1); rintro e w35 ⟨rfl, hb⟩; refine ⟨_, rfl, ?_⟩; replace HO_6 := am_ (Kd.R_below (rk_ HO_6.out) hb); replace BK202 := bkb_ BK202 hb; replace BK205 := bkb_ BK205 hb; replace HB := bs_ hb; (try clear hb); (try clear hb2); (try clear hk); (try clear hi)) | (go_at_call 18; (refine (Tryz.Builder_WriteString_f gb3 gb3 (Lib.byteCells x3_1.data.toList) (((t212 ++ (⟨#[120, 32]⟩ : ByteArray)) ++ t213) ++ (⟨#[10]⟩ : ByteArray)) _ (isBt_below IB.out bb_) ?side1 ?side2).mono ?_); (case side1 => rw [Lib.byteCells_length, Array.length_toList]; exact LMc30.out); (case side2 => exact Nat.le_of_lt (isBt_lt (isBt_below IB.out bb_))); rintro e w41 ⟨rfl, hi, hb⟩; have IB2 := am_ (isBt_more hi); have BK2 := am_ ((hb.block gb202 LT202.out).trans (bkx_ BK202.out)); have HB2 := am_ ((below_step HBo.out bb_).trans (hb.mono LW6.out)); clear hi hb))
              go_roundg k2
              case measure => have := HK1.out; have := HK2.out; omega
              case rel => exact ⟨(x3_1 ++ (((t212 ++ (⟨#[120, 32]⟩ : ByteArray)) ++ t213) ++ (⟨#[10]⟩ : ByteArray))), (wrap64 (x15_1 + 1)), rs_, H', ⟨by have := HK1.out; have := HK2.out; omega⟩, BK2, IB2, HB2⟩
             ·rw [if_neg c30] at H
              exact nn_ H
            ·rw [if_neg c29] at H
             exact nn_ H
           ·rw [if_neg c28] at H
            exact nn_ H
          ·rw [if_neg c26] at H
           exact nn_ H
      ·rw [if_neg c10] at H
       exact nn_ H
     ·rw [if_neg c9] at H
      exact nn_ H
    ·rw [if_neg c8] at H
     have c8b0 := decide_eq_false c8
     clear c8
     obtain rfl := Option.some.inj H
     go_wp2_with (first | (go_at_call 22; (refine (Tryz.Builder_String_any_f gb3 gb3 x3_1.data.toList _ IB.out (Nat.le_of_lt (isBt_lt IB.out))).mono ?_); rintro e w43 ⟨rfl, _, hb⟩; replace HB := am_ (HB.out.trans (hb.mono LW6.out)); clear hb))
     go_ret
     exact ⟨by cases x3_1; rfl, bb_⟩
 ·replace c3 := Bool.eq_false_iff.mpr c3
  subst c3
  rw [if_neg (show ¬ (false = true) by decide)] at H
  obtain rfl := Option.some.inj H
  go_enter Tryz.func12, Tryz.ntmps12
  go_wp2_with (first | ((with_reducible refine gate_dst (N := 1) rfl ?_); refine bx_ 1 #[.int .i64 a0_0, .slice A0_1 l0_1.length c0_1] 26 ?_; intro gb202 hg w36 hbox hb; have BK202 := am_ (hbox); have GW202 := gw_ hg; have GE202 := gw_ hg; replace HB := bs_ hb; clear hb hbox hg; obtain ⟨hcz37_0, hcz37_1, hfz37_0, hfz37_1⟩ := b2_ BK202) | ((with_reducible refine gate_callee (f := 17) rfl ?_); refine gsL_ (some 10) Tryz.func17 #[.agg #[.int .i64 a0_0, .slice A0_1 l0_1.length c0_1]] ?_; (with_reducible refine (impl_BagOk.calls k a0_0 _ _ l0_1 false _ ?side1 ?side2 A2.out).mono ?_); (case side1 => exact ck_ (Kd.C_below HR0_1.out HB.out)); (case side2 => exact HC0_1.out); rintro e w38 ⟨rfl, hb⟩; refine ⟨_, rfl, ?_⟩; replace BK202 := bkb_ BK202 hb; replace HB := bs_ hb; (try clear hb); (try clear hb2); (try clear hk); (try clear hi)))
  go_ret
  exact ⟨er_, bb_⟩

/-! ### spec_DecText: function 34 -/
def spec_DecText.l0 : Nat → Int → ByteArray → Int → Option (ByteArray)
 | 0, _, _, _ => none
 | k + 1, x0, x3, x4 => if x4 = 0 then (if x0 < 0 then (if 1 + x3.size ≤ 9223372036854775807 then (some ((⟨#[45]⟩ : ByteArray) ++ x3)) else (none)) else (some x3)) else (if (Int.tmod x4 10) < 0 then (if 0 ≤ (wrap64 (-(Int.tmod x4 10))) then (if (wrap64 (-(Int.tmod x4 10))) ≤ (wrap64 ((wrap64 (-(Int.tmod x4 10))) + 1)) then (if (wrap64 ((wrap64 (-(Int.tmod x4 10))) + 1)) ≤ 10 then (if ((⟨#[48, 49, 50, 51, 52, 53, 54, 55, 56, 57]⟩ : ByteArray).extract ((wrap64 (-(Int.tmod x4 10))) : Int).toNat ((wrap64 ((wrap64 (-(Int.tmod x4 10))) + 1)) : Int).toNat).size + x3.size ≤ 9223372036854775807 then (spec_DecText.l0 k x0 (((⟨#[48, 49, 50, 51, 52, 53, 54, 55, 56, 57]⟩ : ByteArray).extract ((wrap64 (-(Int.tmod x4 10))) : Int).toNat ((wrap64 ((wrap64 (-(Int.tmod x4 10))) + 1)) : Int).toNat) ++ x3) (wrap64 (Int.tdiv x4 10))) else (none)) else (none)) else (none)) else (none)) else (if 0 ≤ (Int.tmod x4 10) then (if (Int.tmod x4 10) ≤ (wrap64 ((Int.tmod x4 10) + 1)) then (if (wrap64 ((Int.tmod x4 10) + 1)) ≤ 10 then (if ((⟨#[48, 49, 50, 51, 52, 53, 54, 55, 56, 57]⟩ : ByteArray).extract ((Int.tmod x4 10) : Int).toNat ((wrap64 ((Int.tmod x4 10) + 1)) : Int).toNat).size + x3.size ≤ 9223372036854775807 then (spec_DecText.l0 k x0 (((⟨#[48, 49, 50, 51, 52, 53, 54, 55, 56, 57]⟩ : ByteArray).extract ((Int.tmod x4 10) : Int).toNat ((wrap64 ((Int.tmod x4 10) + 1)) : Int).toNat) ++ x3) (wrap64 (Int.tdiv x4 10))) else (none)) else (none)) else (none)) else (none)))
def spec_DecText.f (k : Nat) (a0 : Int) : Option (ByteArray) := if a0 = 0 then (some (⟨#[48]⟩ : ByteArray)) else (spec_DecText.l0 k a0 (⟨#[]⟩ : ByteArray) a0)
set_option maxHeartbeats 8000000 in
set_option maxRecDepth 100000 in
theorem spec_DecText.calls (k : Nat) (a0 : Int) (r : ByteArray) (w : World) (h : spec_DecText.f k a0 = some r) :
  Calls Tryz.prog 34 #[.int .i64 a0] w fun e w' => e = .returned (.string r) ∧ Drawn0 w w' := by
 have H : (if a0 = 0 then (some (⟨#[48]⟩ : ByteArray)) else (spec_DecText.l0 k a0 (⟨#[]⟩ : ByteArray) a0)) = some r := h
 clear h
 by_cases c2 : a0 = 0
 ·rw [if_pos c2] at H
  have c2b0 : (a0 == 0) = true := beq_iff_eq.mpr c2; have c2b1 : (a0 != 0) = false := bne_eq_false_iff_eq.mpr c2; clear c2; obtain rfl := Option.some.inj H
  go_enter Tryz.func34, Tryz.ntmps34
  go_wp2
  go_ret
  (exact ⟨by first | rfl | (simp; done) | (simp [*]; done), by repeat (first | exact Drawn0.refl _ | apply Drawn0.step)⟩)
 ·rw [if_neg c2] at H
  have c2b0 : (a0 == 0) = false := beq_eq_false_iff_ne.mpr c2; have c2b1 : (a0 != 0) = true := bne_iff_ne.mpr c2; have H' := am_ H; clear H
  go_enter Tryz.func34, Tryz.ntmps34
  go_wp2
  go_loopg [3, 4] k (fun kq v3 v4 w' => ∃ (x3_1 : ByteArray) (x4_1 : Int), v3 = .string x3_1 ∧ v4 = .int .i64 x4_1 ∧ Aside0 (spec_DecText.l0 kq a0 x3_1 x4_1 = some r) ∧ Aside0 (kq ≤ k) ∧ Drawn0 w w')
  case atStart => exact ⟨((⟨#[]⟩ : ByteArray)), (a0), rs_, rs_, H', ⟨Nat.le_refl _⟩, by repeat (first | exact Drawn0.refl _ | apply Drawn0.step)⟩
  case round =>
   clear H'; (try clear c2); (try clear c2b0); (try clear c2b1); (try clear p2); obtain ⟨x3_1, x4_1, rfl, rfl, HA, HK1, ⟨m1, rfl⟩⟩ := hrel
   cases gk with
   | zero => exact absurd HA.out (by simp [spec_DecText.l0])
   | succ k1 =>
    have H := HA.out; clear HA; simp only [spec_DecText.l0] at H
    by_cases c3 : x4_1 = 0
    ·rw [if_pos c3] at H
     have c3b0 : (x4_1 == 0) = true := beq_iff_eq.mpr c3; have c3b1 : (x4_1 != 0) = false := bne_eq_false_iff_eq.mpr c3; clear c3
     by_cases c4 : a0 < 0
     ·rw [if_pos c4] at H
      have c4b0 := decide_eq_true c4; clear c4
      by_cases c5 : 1 + x3_1.size ≤ 9223372036854775807
      ·rw [if_pos c5] at H
       have c5b0 := eq_true c5; have c5b1 := decide_eq_true c5
       try have c5b2 : (9223372036854775807 < 1 + x3_1.size) = False := eq_false (Nat.not_lt.2 c5)
       obtain rfl := Option.some.inj H
       go_wp2
       go_ret
       (exact ⟨by first | rfl | (simp; done) | (simp [*]; done), by repeat (first | exact Drawn0.refl _ | apply Drawn0.step)⟩)
      ·rw [if_neg c5] at H
       exact nn_ H
     ·rw [if_neg c4] at H
      have c4b0 := decide_eq_false c4; clear c4; obtain rfl := Option.some.inj H
      go_wp2
      go_ret
      (exact ⟨by first | rfl | (simp; done) | (simp [*]; done), by repeat (first | exact Drawn0.refl _ | apply Drawn0.step)⟩)
    ·rw [if_neg c3] at H
     have c3b0 : (x4_1 == 0) = false := beq_eq_false_iff_ne.mpr c3; have c3b1 : (x4_1 != 0) = true := bne_iff_ne.mpr c3
     by_cases c6 : (Int.tmod x4_1 10) < 0
     ·rw [if_pos c6] at H
      have c6b0 := decide_eq_true c6; clear c6; obtain ⟨ji7, hji7⟩ : ∃ j_ : Int, (wrap64 (-(Int.tmod x4_1 10))) = j_ := ⟨_, rfl⟩; (replace H : (if 0 ≤ (ji7) then (if (ji7) ≤ (wrap64 ((ji7) + 1)) then (if (wrap64 ((ji7) + 1)) ≤ 10 then (if ((⟨#[48, 49, 50, 51, 52, 53, 54, 55, 56, 57]⟩ : ByteArray).extract ((ji7) : Int).toNat ((wrap64 ((ji7) + 1)) : Int).toNat).size + x3_1.size ≤ 9223372036854775807 then (spec_DecText.l0 k1 a0 (((⟨#[48, 49, 50, 51, 52, 53, 54, 55, 56, 57]⟩ : ByteArray).extract ((ji7) : Int).toNat ((wrap64 ((ji7) + 1)) : Int).toNat) ++ x3_1) (wrap64 (Int.tdiv x4_1 10))) else (none)) else (none)) else (none)) else (none)) = some r := by first | (rw [hji7] at H; exact H) | (simp only [hji7] at H ⊢; exact H)); have hji7w : (IntKind.i64.wrap (-(Int.tmod x4_1 10))) = ji7 := (i64_w _).trans hji7
      by_cases c8 : 0 ≤ (ji7)
      ·rw [if_pos c8] at H
       have c8b0 := eq_true c8; have c8b1 := decide_eq_true c8; clear c8
       by_cases c9 : (ji7) ≤ (wrap64 ((ji7) + 1))
       ·rw [if_pos c9] at H
        have c9b0 := eq_true c9; have c9b1 := decide_eq_true c9
        by_cases c10 : (wrap64 ((ji7) + 1)) ≤ 10
        ·rw [if_pos c10] at H
         have c10b0 := eq_true c10; have c10b1 := decide_eq_true c10
         by_cases c11 : ((⟨#[48, 49, 50, 51, 52, 53, 54, 55, 56, 57]⟩ : ByteArray).extract ((ji7) : Int).toNat ((wrap64 ((ji7) + 1)) : Int).toNat).size + x3_1.size ≤ 9223372036854775807
         ·rw [if_pos c11] at H
          have c11b0 := eq_true c11; have c11b1 := decide_eq_true c11
          try have c11b2 : (9223372036854775807 < ((⟨#[48, 49, 50, 51, 52, 53, 54, 55, 56, 57]⟩ : ByteArray).extract ((ji7) : Int).toNat ((wrap64 ((ji7) + 1)) : Int).toNat).size + x3_1.size) = False := eq_false (Nat.not_lt.2 c11)
          have H' := am_ H; clear H
          go_wp2
          go_roundg k1
          case measure => have := HK1.out; omega
          case rel => exact ⟨(((⟨#[48, 49, 50, 51, 52, 53, 54, 55, 56, 57]⟩ : ByteArray).extract ((ji7) : Int).toNat ((wrap64 ((ji7) + 1)) : Int).toNat) ++ x3_1), (wrap64 (Int.tdiv x4_1 10)), (by first | rfl | (simp; done) | (simp only [← hji7] <;> (first | rfl | simp)) | (simp [*]; done)), rs_, H', ⟨by have := HK1.out; omega⟩, by repeat (first | exact Drawn0.refl _ | apply Drawn0.step)⟩
         ·rw [if_neg c11] at H
          exact nn_ H
        ·rw [if_neg c10] at H
         exact nn_ H
       ·rw [if_neg c9] at H
        exact nn_ H
      ·rw [if_neg c8] at H
       exact nn_ H
     ·rw [if_neg c6] at H
      have c6b0 := decide_eq_false c6; clear c6; obtain ⟨ji12, hji12⟩ : ∃ j_ : Int, (Int.tmod x4_1 10) = j_ := ⟨_, rfl⟩; (replace H : (if 0 ≤ (ji12) then (if (ji12) ≤ (wrap64 ((ji12) + 1)) then (if (wrap64 ((ji12) + 1)) ≤ 10 then (if ((⟨#[48, 49, 50, 51, 52, 53, 54, 55, 56, 57]⟩ : ByteArray).extract ((ji12) : Int).toNat ((wrap64 ((ji12) + 1)) : Int).toNat).size + x3_1.size ≤ 9223372036854775807 then (spec_DecText.l0 k1 a0 (((⟨#[48, 49, 50, 51, 52, 53, 54, 55, 56, 57]⟩ : ByteArray).extract ((ji12) : Int).toNat ((wrap64 ((ji12) + 1)) : Int).toNat) ++ x3_1) (wrap64 (Int.tdiv x4_1 10))) else (none)) else (none)) else (none)) else (none)) = some r := by first | (rw [hji12] at H; exact H) | (simp only [hji12] at H ⊢; exact H)); (try rw [hji12] at c6b0)
      by_cases c13 : 0 ≤ (ji12)
      ·rw [if_pos c13] at H
       have c13b0 := eq_true c13; have c13b1 := decide_eq_true c13; clear c13
       by_cases c14 : (ji12) ≤ (wrap64 ((ji12) + 1))
       ·rw [if_pos c14] at H
        have c14b0 := eq_true c14; have c14b1 := decide_eq_true c14
        by_cases c15 : (wrap64 ((ji12) + 1)) ≤ 10
        ·rw [if_pos c15] at H
         have c15b0 := eq_true c15; have c15b1 := decide_eq_true c15
         by_cases c16 : ((⟨#[48, 49, 50, 51, 52, 53, 54, 55, 56, 57]⟩ : ByteArray).extract ((ji12) : Int).toNat ((wrap64 ((ji12) + 1)) : Int).toNat).size + x3_1.size ≤ 9223372036854775807
         ·rw [if_pos c16] at H
          have c16b0 := eq_true c16; have c16b1 := decide_eq_true c16
          try have c16b2 : (9223372036854775807 < ((⟨#[48, 49, 50, 51, 52, 53, 54, 55, 56, 57]⟩ : ByteArray).extract ((ji12) : Int).toNat ((wrap64 ((ji12) + 1)) : Int).toNat).size + x3_1.size) = False := eq_false (Nat.not_lt.2 c16)
          have H' := am_ H; clear H
          go_wp2
          go_roundg k1
          case measure => have := HK1.out; omega
          case rel => exact ⟨(((⟨#[48, 49, 50, 51, 52, 53, 54, 55, 56, 57]⟩ : ByteArray).extract ((ji12) : Int).toNat ((wrap64 ((ji12) + 1)) : Int).toNat) ++ x3_1), (wrap64 (Int.tdiv x4_1 10)), (by first | rfl | (simp; done) | (simp only [← hji12] <;> (first | rfl | simp)) | (simp [*]; done)), rs_, H', ⟨by have := HK1.out; omega⟩, by repeat (first | exact Drawn0.refl _ | apply Drawn0.step)⟩
         ·rw [if_neg c16] at H
          exact nn_ H
        ·rw [if_neg c15] at H
         exact nn_ H
       ·rw [if_neg c14] at H
        exact nn_ H
      ·rw [if_neg c13] at H
       exact nn_ H

/-! ### spec_l01Quote: function 55 -/
def spec_l01Quote.l0 : Nat → ByteArray → ByteArray → Int → Option (ByteArray)
 | 0, _, _, _ => none
 | k + 1, x0, x3, x4 => if x4 < (x0.size : Int) then (if 0 ≤ x4 then (if x4 ≤ (wrap64 (x4 + 1)) then (if (wrap64 (x4 + 1)) ≤ (x0.size : Int) then (if x3.size + (x0.extract (x4 : Int).toNat ((wrap64 (x4 + 1)) : Int).toNat).size ≤ 9223372036854775807 then (if (bt x0 x4) = 39 then (if (x3 ++ (x0.extract (x4 : Int).toNat ((wrap64 (x4 + 1)) : Int).toNat)).size + 1 ≤ 9223372036854775807 then (spec_l01Quote.l0 k x0 ((x3 ++ (x0.extract (x4 : Int).toNat ((wrap64 (x4 + 1)) : Int).toNat)) ++ (⟨#[39]⟩ : ByteArray)) (wrap64 (x4 + 1))) else (none)) else (spec_l01Quote.l0 k x0 (x3 ++ (x0.extract (x4 : Int).toNat ((wrap64 (x4 + 1)) : Int).toNat)) (wrap64 (x4 + 1)))) else (none)) else (none)) else (none)) else (none)) else (if x3.size + 1 ≤ 9223372036854775807 then (some (x3 ++ (⟨#[39]⟩ : ByteArray))) else (none))
def spec_l01Quote.f (k : Nat) (a0 : ByteArray) : Option (ByteArray) := spec_l01Quote.l0 k a0 (⟨#[39]⟩ : ByteArray) 0
set_option maxHeartbeats 8000000 in
set_option maxRecDepth 100000 in
theorem spec_l01Quote.calls (k : Nat) (a0 : ByteArray) (r : ByteArray) (w : World) (h : spec_l01Quote.f k a0 = some r) :
  Calls Tryz.prog 55 #[.string a0] w fun e w' => e = .returned (.string r) ∧ Drawn0 w w' := by
 have H : (spec_l01Quote.l0 k a0 (⟨#[39]⟩ : ByteArray) 0) = some r := h
 clear h
 have H' := am_ H
 clear H
 go_enter Tryz.func55, Tryz.ntmps55
 go_wp2
 go_loopg [3, 4] k (fun kq v3 v4 w' => ∃ (x3_1 : ByteArray) (x4_1 : Int), v3 = .string x3_1 ∧ v4 = .int .i64 x4_1 ∧ Aside0 (spec_l01Quote.l0 kq a0 x3_1 x4_1 = some r) ∧ Aside0 (kq ≤ k) ∧ Drawn0 w w')
 case atStart => exact ⟨((⟨#[39]⟩ : ByteArray)), (0), rs_, rs_, H', ⟨Nat.le_refl _⟩, by repeat (first | exact Drawn0.refl _ | apply Drawn0.step)⟩
 case round =>
  clear H'; obtain ⟨x3_1, x4_1, rfl, rfl, HA, HK1, ⟨m1, rfl⟩⟩ := hrel
  cases gk with
  | zero => exact absurd HA.out (by simp [spec_l01Quote.l0])
  | succ k1 =>
   have H := HA.out; clear HA; simp only [spec_l01Quote.l0] at H
   by_cases c2 : x4_1 < (a0.size : Int)
   ·rw [if_pos c2] at H
    have c2b0 := decide_eq_true c2; clear c2
    by_cases c3 : 0 ≤ x4_1
    ·rw [if_pos c3] at H
     have c3b0 := eq_true c3; have c3b1 := decide_eq_true c3; clear c3
     by_cases c4 : x4_1 ≤ (wrap64 (x4_1 + 1))
     ·rw [if_pos c4] at H
      have c4b0 := eq_true c4; have c4b1 := decide_eq_true c4
      by_cases c5 : (wrap64 (x4_1 + 1)) ≤ (a0.size : Int)
      ·rw [if_pos c5] at H
       have c5b0 := eq_true c5; have c5b1 := decide_eq_true c5
       by_cases c6 : x3_1.size + (a0.extract (x4_1 : Int).toNat ((wrap64 (x4_1 + 1)) : Int).toNat).size ≤ 9223372036854775807
       ·rw [if_pos c6] at H
        have c6b0 := eq_true c6; have c6b1 := decide_eq_true c6
        try have c6b2 : (9223372036854775807 < x3_1.size + (a0.extract (x4_1 : Int).toNat ((wrap64 (x4_1 + 1)) : Int).toNat).size) = False := eq_false (Nat.not_lt.2 c6)
        by_cases c8 : (bt a0 x4_1) = 39
        ·rw [if_pos c8] at H
         have c8b0 : ((bt a0 x4_1) == 39) = true := beq_iff_eq.mpr c8; have c8b1 : ((bt a0 x4_1) != 39) = false := bne_eq_false_iff_eq.mpr c8; clear c8
         by_cases c9 : (x3_1 ++ (a0.extract (x4_1 : Int).toNat ((wrap64 (x4_1 + 1)) : Int).toNat)).size + 1 ≤ 9223372036854775807
         ·rw [if_pos c9] at H
          have c9b0 := eq_true c9; have c9b1 := decide_eq_true c9
          try have c9b2 : (9223372036854775807 < (x3_1 ++ (a0.extract (x4_1 : Int).toNat ((wrap64 (x4_1 + 1)) : Int).toNat)).size + 1) = False := eq_false (Nat.not_lt.2 c9)
          (try (have c9b0z := c9b0; simp only [ByteArray.size_append] at c9b0z)); (try (have c9b1z := c9b1; simp only [ByteArray.size_append] at c9b1z)); (try (have c9b2z := c9b2; simp only [ByteArray.size_append] at c9b2z)); (try (have c9b2y : (9223372036854775807 < x3_1.size + (((wrap64 (x4_1 + 1)) : Int).toNat - (x4_1 : Int).toNat) + 1) = False := by (apply eq_false; have hq_ := c9; simp only [ByteArray.size_append, ByteArray.size_extract] at hq_; omega))); have H' := am_ H; clear H; (have p7 : 0 ≤ (x4_1 : Int) := oa_); (have q7 : x4_1 < (a0.size : Int) := oa_); have hx7 := bt_at a0 x4_1; replace p7 := eq_true p7; replace q7 := eq_true q7
          go_wp2
          go_roundg k1
          case measure => have := HK1.out; omega
          case rel => exact ⟨((x3_1 ++ (a0.extract (x4_1 : Int).toNat ((wrap64 (x4_1 + 1)) : Int).toNat)) ++ (⟨#[39]⟩ : ByteArray)), (wrap64 (x4_1 + 1)), rs_, rs_, H', ⟨by have := HK1.out; omega⟩, by repeat (first | exact Drawn0.refl _ | apply Drawn0.step)⟩
         ·rw [if_neg c9] at H
          exact nn_ H
        ·rw [if_neg c8] at H
         have c8b0 : ((bt a0 x4_1) == 39) = false := beq_eq_false_iff_ne.mpr c8; have c8b1 : ((bt a0 x4_1) != 39) = true := bne_iff_ne.mpr c8; have H' := am_ H; clear H; (have p7 : 0 ≤ (x4_1 : Int) := oa_); (have q7 : x4_1 < (a0.size : Int) := oa_); have hx7 := bt_at a0 x4_1; replace p7 := eq_true p7; replace q7 := eq_true q7
         go_wp2
         go_roundg k1
         case measure => have := HK1.out; omega
         case rel => exact ⟨(x3_1 ++ (a0.extract (x4_1 : Int).toNat ((wrap64 (x4_1 + 1)) : Int).toNat)), (wrap64 (x4_1 + 1)), rs_, rs_, H', ⟨by have := HK1.out; omega⟩, by repeat (first | exact Drawn0.refl _ | apply Drawn0.step)⟩
       ·rw [if_neg c6] at H
        exact nn_ H
      ·rw [if_neg c5] at H
       exact nn_ H
     ·rw [if_neg c4] at H
      exact nn_ H
    ·rw [if_neg c3] at H
     exact nn_ H
   ·rw [if_neg c2] at H
    have c2b0 := decide_eq_false c2; clear c2
    by_cases c10 : x3_1.size + 1 ≤ 9223372036854775807
    ·rw [if_pos c10] at H
     have c10b0 := eq_true c10; have c10b1 := decide_eq_true c10
     try have c10b2 : (9223372036854775807 < x3_1.size + 1) = False := eq_false (Nat.not_lt.2 c10)
     obtain rfl := Option.some.inj H
     go_wp2
     go_ret
     (exact ⟨by first | rfl | (simp; done) | (simp [*]; done), by repeat (first | exact Drawn0.refl _ | apply Drawn0.step)⟩)
    ·rw [if_neg c10] at H
     exact nn_ H

/-! ### spec_ValueText: function 35 -/
def spec_ValueText.f (k : Nat) (a0_0 : Int) (a0_1 : Int) (a0_2 : ByteArray) : Option (ByteArray) := (spec_ValueOk.f a0_0 a0_1 a0_2).bind fun t431 => (if t431 = true then (if a0_0 = 0 then (some (⟨#[110, 117, 108, 108]⟩ : ByteArray)) else (if a0_0 = 1 then ((spec_DecText.f k a0_1).bind fun t432 => (some t432)) else (if a0_0 = 3 then ((spec_l01Quote.f k a0_2).bind fun t433 => (some t433)) else (if a0_1 = 1 then (some (⟨#[116, 114, 117, 101]⟩ : ByteArray)) else (some (⟨#[102, 97, 108, 115, 101]⟩ : ByteArray)))))) else (some (⟨#[]⟩ : ByteArray)))
set_option maxHeartbeats 8000000 in
set_option maxRecDepth 100000 in
theorem spec_ValueText.calls (k : Nat) (a0_0 : Int) (a0_1 : Int) (a0_2 : ByteArray) (r : ByteArray) (w : World) (h : spec_ValueText.f k a0_0 a0_1 a0_2 = some r) :
  Calls Tryz.prog 35 #[.agg #[.int .i64 a0_0, .int .i64 a0_1, .string a0_2]] w fun e w' => e = .returned (.string r) ∧ Below w.heap.size w w' := by
 have hu50 := Tryz.underlying50
 have HB := am_ (Below.refl w.heap.size w)
 have H : ((spec_ValueOk.f a0_0 a0_1 a0_2).bind fun t431 => (if t431 = true then (if a0_0 = 0 then (some (⟨#[110, 117, 108, 108]⟩ : ByteArray)) else (if a0_0 = 1 then ((spec_DecText.f k a0_1).bind fun t432 => (some t432)) else (if a0_0 = 3 then ((spec_l01Quote.f k a0_2).bind fun t433 => (some t433)) else (if a0_1 = 1 then (some (⟨#[116, 114, 117, 101]⟩ : ByteArray)) else (some (⟨#[102, 97, 108, 115, 101]⟩ : ByteArray)))))) else (some (⟨#[]⟩ : ByteArray)))) = some r := h
 clear h
 replace H := bsi_ H
 obtain ⟨t431, A20, H⟩ := H
 try dsimp only at H
 have A2 := am_ A20
 clear A20
 by_cases c3 : t431 = true
 ·subst c3
  rw [if_pos rfl] at H
  by_cases c4 : a0_0 = 0
  ·rw [if_pos c4] at H
   have c4b0 : (a0_0 == 0) = true := beq_iff_eq.mpr c4; have c4b1 : (a0_0 != 0) = false := bne_eq_false_iff_eq.mpr c4; clear c4; obtain rfl := Option.some.inj H
   go_enter Tryz.func35, Tryz.ntmps35
   go_wp2_with (first | ((with_reducible refine gate_dst (N := 1) rfl ?_); refine bx_ 1 #[.int .i64 a0_0, .int .i64 a0_1, .string a0_2] 50 ?_; intro gb430 hg w5 hbox hb; have BK430 := am_ (hbox); have GW430 := gw_ hg; have GE430 := gw_ hg; replace HB := bs_ hb; clear hb hbox hg; obtain ⟨hcz6_0, hcz6_1, hcz6_2, hfz6_0, hfz6_1, hfz6_2⟩ := b3_ BK430) | ((with_reducible refine gate_callee (f := 50) rfl ?_); refine gsL_ (some 5) Tryz.func50 #[.agg #[.int .i64 a0_0, .int .i64 a0_1, .string a0_2]] ?_; (with_reducible refine (spec_ValueOk.calls a0_0 a0_1 a0_2 true _ A2.out).mono ?_); rintro e w7 ⟨rfl, hb⟩; refine ⟨_, rfl, ?_⟩; replace BK430 := bkb_ BK430 hb; replace HB := bs_ hb; (try clear hb); obtain ⟨hcz8_0, hcz8_1, hcz8_2, hfz8_0, hfz8_1, hfz8_2⟩ := b3_ BK430))
   go_ret
   exact ⟨er_, bb_⟩
  ·rw [if_neg c4] at H
   have c4b0 : (a0_0 == 0) = false := beq_eq_false_iff_ne.mpr c4; have c4b1 : (a0_0 != 0) = true := bne_iff_ne.mpr c4
   by_cases c9 : a0_0 = 1
   ·rw [if_pos c9] at H
    have c9b0 : (a0_0 == 1) = true := beq_iff_eq.mpr c9; have c9b1 : (a0_0 != 1) = false := bne_eq_false_iff_eq.mpr c9; clear c9; replace H := bsi_ H; obtain ⟨t432, A100, H⟩ := H
    try dsimp only at H
    have A10 := am_ A100; clear A100; obtain rfl := Option.some.inj H
    go_enter Tryz.func35, Tryz.ntmps35
    go_wp2_with (first | ((with_reducible refine gate_dst (N := 1) rfl ?_); refine bx_ 1 #[.int .i64 a0_0, .int .i64 a0_1, .string a0_2] 50 ?_; intro gb430 hg w11 hbox hb; have BK430 := am_ (hbox); have GW430 := gw_ hg; have GE430 := gw_ hg; replace HB := bs_ hb; clear hb hbox hg; obtain ⟨hcz12_0, hcz12_1, hcz12_2, hfz12_0, hfz12_1, hfz12_2⟩ := b3_ BK430) | ((with_reducible refine gate_callee (f := 50) rfl ?_); refine gsL_ (some 5) Tryz.func50 #[.agg #[.int .i64 a0_0, .int .i64 a0_1, .string a0_2]] ?_; (with_reducible refine (spec_ValueOk.calls a0_0 a0_1 a0_2 true _ A2.out).mono ?_); rintro e w13 ⟨rfl, hb⟩; refine ⟨_, rfl, ?_⟩; replace BK430 := bkb_ BK430 hb; replace HB := bs_ hb; (try clear hb); obtain ⟨hcz14_0, hcz14_1, hcz14_2, hfz14_0, hfz14_1, hfz14_2⟩ := b3_ BK430) | ((with_reducible refine gate_callee (f := 34) rfl ?_); refine gsL_ (some 17) Tryz.func34 #[.int .i64 a0_1] ?_; (with_reducible refine (spec_DecText.calls k a0_1 t432 _ A10.out).mono ?_); rintro e w' ⟨rfl, ⟨nd, rfl⟩⟩; refine ⟨_, rfl, ?_⟩))
    go_ret
    exact ⟨er_, bb_⟩
   ·rw [if_neg c9] at H
    have c9b0 : (a0_0 == 1) = false := beq_eq_false_iff_ne.mpr c9; have c9b1 : (a0_0 != 1) = true := bne_iff_ne.mpr c9
    by_cases c15 : a0_0 = 3
    ·rw [if_pos c15] at H
     have c15b0 : (a0_0 == 3) = true := beq_iff_eq.mpr c15; have c15b1 : (a0_0 != 3) = false := bne_eq_false_iff_eq.mpr c15; clear c15; replace H := bsi_ H; obtain ⟨t433, A160, H⟩ := H
     try dsimp only at H
     have A16 := am_ A160; clear A160; obtain rfl := Option.some.inj H
     go_enter Tryz.func35, Tryz.ntmps35
     go_wp2_with (first | ((with_reducible refine gate_dst (N := 1) rfl ?_); refine bx_ 1 #[.int .i64 a0_0, .int .i64 a0_1, .string a0_2] 50 ?_; intro gb430 hg w17 hbox hb; have BK430 := am_ (hbox); have GW430 := gw_ hg; have GE430 := gw_ hg; replace HB := bs_ hb; clear hb hbox hg; obtain ⟨hcz18_0, hcz18_1, hcz18_2, hfz18_0, hfz18_1, hfz18_2⟩ := b3_ BK430) | ((with_reducible refine gate_callee (f := 50) rfl ?_); refine gsL_ (some 5) Tryz.func50 #[.agg #[.int .i64 a0_0, .int .i64 a0_1, .string a0_2]] ?_; (with_reducible refine (spec_ValueOk.calls a0_0 a0_1 a0_2 true _ A2.out).mono ?_); rintro e w19 ⟨rfl, hb⟩; refine ⟨_, rfl, ?_⟩; replace BK430 := bkb_ BK430 hb; replace HB := bs_ hb; (try clear hb); obtain ⟨hcz20_0, hcz20_1, hcz20_2, hfz20_0, hfz20_1, hfz20_2⟩ := b3_ BK430) | ((with_reducible refine gate_callee (f := 55) rfl ?_); refine gsL_ (some 24) Tryz.func55 #[.string a0_2] ?_; (with_reducible refine (spec_l01Quote.calls k a0_2 t433 _ A16.out).mono ?_); rintro e w' ⟨rfl, ⟨nd, rfl⟩⟩; refine ⟨_, rfl, ?_⟩))
     go_ret
     exact ⟨er_, bb_⟩
    ·rw [if_neg c15] at H
     have c15b0 : (a0_0 == 3) = false := beq_eq_false_iff_ne.mpr c15; have c15b1 : (a0_0 != 3) = true := bne_iff_ne.mpr c15
     by_cases c21 : a0_1 = 1
     ·rw [if_pos c21] at H
      have c21b0 : (a0_1 == 1) = true := beq_iff_eq.mpr c21; have c21b1 : (a0_1 != 1) = false := bne_eq_false_iff_eq.mpr c21; clear c21; obtain rfl := Option.some.inj H
      go_enter Tryz.func35, Tryz.ntmps35
      go_wp2_with (first | ((with_reducible refine gate_dst (N := 1) rfl ?_); refine bx_ 1 #[.int .i64 a0_0, .int .i64 a0_1, .string a0_2] 50 ?_; intro gb430 hg w22 hbox hb; have BK430 := am_ (hbox); have GW430 := gw_ hg; have GE430 := gw_ hg; replace HB := bs_ hb; clear hb hbox hg; obtain ⟨hcz23_0, hcz23_1, hcz23_2, hfz23_0, hfz23_1, hfz23_2⟩ := b3_ BK430) | ((with_reducible refine gate_callee (f := 50) rfl ?_); refine gsL_ (some 5) Tryz.func50 #[.agg #[.int .i64 a0_0, .int .i64 a0_1, .string a0_2]] ?_; (with_reducible refine (spec_ValueOk.calls a0_0 a0_1 a0_2 true _ A2.out).mono ?_); rintro e w24 ⟨rfl, hb⟩; refine ⟨_, rfl, ?_⟩; replace BK430 := bkb_ BK430 hb; replace HB := bs_ hb; (try clear hb); obtain ⟨hcz25_0, hcz25_1, hcz25_2, hfz25_0, hfz25_1, hfz25_2⟩ := b3_ BK430))
      go_ret
      exact ⟨er_, bb_⟩
     ·rw [if_neg c21] at H
      have c21b0 : (a0_1 == 1) = false := beq_eq_false_iff_ne.mpr c21; have c21b1 : (a0_1 != 1) = true := bne_iff_ne.mpr c21; obtain rfl := Option.some.inj H
      go_enter Tryz.func35, Tryz.ntmps35
      go_wp2_with (first | ((with_reducible refine gate_dst (N := 1) rfl ?_); refine bx_ 1 #[.int .i64 a0_0, .int .i64 a0_1, .string a0_2] 50 ?_; intro gb430 hg w26 hbox hb; have BK430 := am_ (hbox); have GW430 := gw_ hg; have GE430 := gw_ hg; replace HB := bs_ hb; clear hb hbox hg; obtain ⟨hcz27_0, hcz27_1, hcz27_2, hfz27_0, hfz27_1, hfz27_2⟩ := b3_ BK430) | ((with_reducible refine gate_callee (f := 50) rfl ?_); refine gsL_ (some 5) Tryz.func50 #[.agg #[.int .i64 a0_0, .int .i64 a0_1, .string a0_2]] ?_; (with_reducible refine (spec_ValueOk.calls a0_0 a0_1 a0_2 true _ A2.out).mono ?_); rintro e w28 ⟨rfl, hb⟩; refine ⟨_, rfl, ?_⟩; replace BK430 := bkb_ BK430 hb; replace HB := bs_ hb; (try clear hb); obtain ⟨hcz29_0, hcz29_1, hcz29_2, hfz29_0, hfz29_1, hfz29_2⟩ := b3_ BK430))
      go_ret
      exact ⟨er_, bb_⟩
 ·replace c3 := Bool.eq_false_iff.mpr c3
  subst c3; (rw [if_neg (show ¬ (false = true) by decide)] at H); obtain rfl := Option.some.inj H
  go_enter Tryz.func35, Tryz.ntmps35
  go_wp2_with (first | ((with_reducible refine gate_dst (N := 1) rfl ?_); refine bx_ 1 #[.int .i64 a0_0, .int .i64 a0_1, .string a0_2] 50 ?_; intro gb430 hg w30 hbox hb; have BK430 := am_ (hbox); have GW430 := gw_ hg; have GE430 := gw_ hg; replace HB := bs_ hb; clear hb hbox hg; obtain ⟨hcz31_0, hcz31_1, hcz31_2, hfz31_0, hfz31_1, hfz31_2⟩ := b3_ BK430) | ((with_reducible refine gate_callee (f := 50) rfl ?_); refine gsL_ (some 5) Tryz.func50 #[.agg #[.int .i64 a0_0, .int .i64 a0_1, .string a0_2]] ?_; (with_reducible refine (spec_ValueOk.calls a0_0 a0_1 a0_2 false _ A2.out).mono ?_); rintro e w32 ⟨rfl, hb⟩; refine ⟨_, rfl, ?_⟩; replace BK430 := bkb_ BK430 hb; replace HB := bs_ hb; (try clear hb)))
  go_ret
  exact ⟨er_, bb_⟩
end Go.Proofs.YtoajedijckkjjaaGreatDoor.PFnBagBytes
