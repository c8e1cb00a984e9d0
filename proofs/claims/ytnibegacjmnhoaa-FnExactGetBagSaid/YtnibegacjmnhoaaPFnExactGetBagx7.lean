-- WRITTEN BY xprint.py, a program of this session over the kit's printer: by nobody's hand
-- PRESSED
import Derived.Test.YtnibegacjmnhoaaPress
import Derived.Test.YtnibegacjmnhoaaPFnExactGetBagx0
import Derived.Test.YtnibegacjmnhoaaPFnExactGetBagx5
import Derived.Test.YtnibegacjmnhoaaPFnExactGetBagx6
namespace Go.Proofs.Ytnibegacjmnhoaa.PFnExactGetBag
open Go.RowKit Go.Proofs.YtnibegacjmnhoaaW.PrintWords Go.Proofs.YtnibegacjmnhoaaW.PrintLast Go.Proofs.YtnibegacjmnhoaaW.PrintMore
set_option linter.unusedVariables false
set_option linter.unusedSimpArgs false

/-! ### spec_GetBag: function 10 -/
mutual
def spec_GetBag.j0 : Nat → ByteArray → Bool → Option (Int × (List (S46)) × Bool)
 | 0, _, _ => none
 | k + 1, x0, x19 => if x19 = true then (some (0, ([] : List (S46)), false)) else (if 0 < (x0.size : Int) then (spec_GetBag.l0 k x0 1 (wrap64 (bt x0 0)) ([] : List (S46))) else (none))
def spec_GetBag.l0 : Nat → ByteArray → Int → Int → List (S46) → Option (Int × (List (S46)) × Bool)
 | 0, _, _, _, _ => none
 | k + 1, x0, x5, x154000, x154001 => if x5 < (x0.size : Int) then (spec_GetBag.j2 k x0 x5 (decide ((x154001.length : Int) ≤ 400)) x154000 x154001) else (spec_GetBag.j2 k x0 x5 false x154000 x154001)
def spec_GetBag.j2 : Nat → ByteArray → Int → Bool → Int → List (S46) → Option (Int × (List (S46)) × Bool)
 | 0, _, _, _, _, _ => none
 | k + 1, x0, x5, x34, x154000, x154001 => if x34 = true then ((spec_GetValue.f k x0 x5).bind fun bt155 => (spec_GetBag.l1 k x0 bt155.2.2.2 0 x154000 x154001 ([] : List (S42)) bt155.2.1)) else ((spec_PutBag.f k x154000 x154001).bind fun t154 => (if t154.toList = x0.toList then (some (x154000, x154001, true)) else (some (0, ([] : List (S46)), false))))
def spec_GetBag.l1 : Nat → ByteArray → Int → Int → Int → List (S46) → List (S42) → Int → Option (Int × (List (S46)) × Bool)
 | 0, _, _, _, _, _, _, _ => none
 | k + 1, x0, x5, x9, x154000, x154001, x161000, x161001 => if x9 < x154000 then (if x5 ≥ 0 then ((spec_GetValue.f k x0 x5).bind fun bt161 => (if x161000.length < 4398046511104 then (spec_GetBag.l1 k x0 bt161.2.2.2 (wrap64 (x9 + 1)) x154000 x154001 (x161000 ++ [(⟨bt161.1, bt161.2.1, bt161.2.2.1⟩ : S42)]) x161001) else (none))) else (if x5 < 0 then (some (0, ([] : List (S46)), false)) else (if x154001.length < 4398046511104 then (spec_GetBag.l0 k x0 x5 x154000 (x154001 ++ [(⟨x161000, x161001⟩ : S46)])) else (none)))) else (if x5 < 0 then (some (0, ([] : List (S46)), false)) else (if x154001.length < 4398046511104 then (spec_GetBag.l0 k x0 x5 x154000 (x154001 ++ [(⟨x161000, x161001⟩ : S46)])) else (none)))
end
def spec_GetBag.f (k : Nat) (a0 : ByteArray) : Option (Int × (List (S46)) × Bool) := if a0.toList = ([] : List UInt8) then (spec_GetBag.j0 k a0 true) else (if 0 < (a0.size : Int) then (spec_GetBag.j0 k a0 (decide ((wrap64 (bt a0 0)) > 12))) else (none))
set_option maxHeartbeats 8000000 in
set_option maxRecDepth 100000 in
theorem spec_GetBag.calls (k : Nat) (a0 : ByteArray) (r1 : Int) (r2 : List (S46)) (r3 : Bool) (w : World) (h : spec_GetBag.f k a0 = some (r1, r2, r3)) :
  Calls Try.prog 10 #[.string a0] w fun e w' => ∃ v1_ : Value, e = .returned (.tuple #[.agg #[.int .i64 r1, v1_], .bool r3]) ∧ Kd.S k46 46 w' w.heap.size (fun _ => True) v1_ r2 ∧ Below w.heap.size w w' := by
 have hu29 := Try.underlying29
 have hu42 := Try.underlying42
 have hu46 := Try.underlying46
 have HB := Aside0.mk (Below.refl w.heap.size w)
 have H : (if a0.toList = ([] : List UInt8) then (spec_GetBag.j0 k a0 true) else (if 0 < (a0.size : Int) then (spec_GetBag.j0 k a0 (decide ((wrap64 (bt a0 0)) > 12))) else (none))) = some (r1, r2, r3) := h
 clear h
 have HC2 := Aside0.mk H
 clear H
 go_enter Try.func10, Try.ntmps10
 go_upto_region 1 with (first | ((with_reducible refine gate_dst (N := 2) rfl ?_); (try (refine gate_guard (by rfl) ?_; dsimp only)); refine bx_ 2 #[.int .i64 0, .slice none 0 0] 29 ?_; intro gb152 hg w3 hbox hb; have BK152 := Aside0.mk (hbox); have GW152 := gw_ hg; have GE152 := gw_ hg; replace HB := bs_ hb; clear hb hbox hg))
 (try simp only [Act.put, List.setIfInBounds_toArray, List.set_cons_zero, List.set_cons_succ])
 go_cut [19] (fun v19 wc => ∃ (kq : Nat) (x19_1 : Bool), v19 = .bool x19_1 ∧ Aside0 (spec_GetBag.j0 kq a0 x19_1 = some (r1, r2, r3)) ∧ Aside0 (kq ≤ k) ∧ Aside0 (wc.heap[gb152]? = some (.cells #[.int .i64 0, (.slice none 0 0)] 29 (0, 0))) ∧ Aside0 (Below w.heap.size w wc))
 case first =>
  have H := HC2.out
  clear HC2
  by_cases c4 : a0.toList = ([] : List UInt8)
  ·rw [if_pos c4] at H
   have c4b0 : (a0.toList == ([] : List UInt8)) = true := beq_iff_eq.mpr c4
   have c4b1 : (a0.toList != ([] : List UInt8)) = false := bne_eq_false_iff_eq.mpr c4
   clear c4
   (first | rw [c4b0] | (simp only [i64_w, i32_w]; rw [c4b0]) | skip)
   have H' := Aside0.mk H
   clear H
   go_wp2
   go_meet
   case rel => exact ⟨_, (true), rs_, H', ⟨by first | omega | exact Nat.le_refl _⟩, ⟨bkx_ BK152.out⟩, ⟨bb_⟩⟩
  ·rw [if_neg c4] at H
   have c4b0 : (a0.toList == ([] : List UInt8)) = false := beq_eq_false_iff_ne.mpr c4
   have c4b1 : (a0.toList != ([] : List UInt8)) = true := bne_iff_ne.mpr c4
   (first | rw [c4b0] | (simp only [i64_w, i32_w]; rw [c4b0]) | skip)
   by_cases c5 : 0 < (a0.size : Int)
   ·rw [if_pos c5] at H
    have c5b0 : decide (0 < (a0.size : Int)) = true := decide_eq_true c5
    have c5b1 : decide (0 < a0.size) = true := decide_eq_true (by omega)
    clear c5
    have H' := Aside0.mk H
    clear H
    have p6 : 0 ≤ (0 : Int) := (by omega)
    have q6 : 0 < a0.size := (by have : (0 : Int) < (a0.size : Int) := of_decide_eq_true (by first | (with_reducible assumption) | assumption); omega)
    have hx6 : ∀ h : 0 < a0.size, ((a0[0]'h).toNat : Int) = bt a0 0 := bt_at a0 0
    clear p6
    have qi6 : (0 < (a0.size : Int)) = True := eq_true (of_decide_eq_true (by first | (with_reducible assumption) | assumption))
    replace q6 := eq_true q6
    go_wp2
    go_meet
    case rel => exact ⟨_, (decide ((wrap64 (bt a0 0)) > 12)), rs_, H', ⟨by first | omega | exact Nat.le_refl _⟩, ⟨bkx_ BK152.out⟩, ⟨bb_⟩⟩
   ·rw [if_neg c5] at H
    exact absurd H (by simp)
 case rest =>
  clear HC2
  try clear c1
  try clear p2
  try clear c4
  try clear c4b0
  try clear c4b1
  try clear c5
  try clear c5b0
  try clear c5b1
  try clear p6
  try clear q6
  try clear hx6
  try clear qi6
  try clear p6
  try clear q6
  obtain ⟨kq, x19_1, rfl, HA, HJ1, BK152, HB⟩ := hcut
  cases kq with
  | zero => exact absurd HA.out (by simp [spec_GetBag.j0])
  | succ kj1 =>
   have H := HA.out
   clear HA
   simp only [spec_GetBag.j0] at H
   by_cases c7 : x19_1 = true
   ·subst c7
    have H1 : (some (0, ([] : List (S46)), false)) = some (r1, r2, r3) := by rw [if_pos rfl] at H; exact H
    clear H
    have H := H1
    clear H1
    simp only [Option.some.injEq, Prod.mk.injEq] at H
    obtain ⟨rfl, rfl, rfl⟩ := H
    obtain ⟨hcz8_0, hcz8_1, hfz8_0, hfz8_1⟩ := b2_ BK152
    go_wp2
    refine bodyPost_ret (results_ct rfl _ _ gb152 29 #[.int .i64 0, .slice none 0 0] (0, 0) _ rfl (bp2_ (bkx_ BK152.out)) Try.underlying29 rfl (by kernel_rfl)) rfl ?_
    exact ⟨_, by first | rfl | (simp [errW_none, errW_some] <;> rfl) | (simp [*, errW_none, errW_some] <;> rfl), by first | exact Kd.S_nil _ _ _ _ _ | exact Kd.N_nil _ _ _ _ _ | exact Kd.V_nil _ _ _ _ _ | exact Kd.Q_nil _ _ _ _ _ | exact Kd.R_nil _ _ _ _ _, by repeat (first | (with_reducible first | exact HB.out | apply below_alloc | apply pw_below_drewN | apply below_drew1 | refine below_set ?_ GE152.out) | exact HB.out)⟩
   ·replace c7 := Bool.eq_false_iff.mpr c7
    subst c7
    have H1 : (if 0 < (a0.size : Int) then (spec_GetBag.l0 kj1 a0 1 (wrap64 (bt a0 0)) ([] : List (S46))) else (none)) = some (r1, r2, r3) := by rw [if_neg (show ¬ (false = true) by decide)] at H; exact H
    clear H
    have H := H1
    clear H1
    by_cases c9 : 0 < (a0.size : Int)
    ·rw [if_pos c9] at H
     have c9b0 : decide (0 < (a0.size : Int)) = true := decide_eq_true c9
     have c9b1 : decide (0 < a0.size) = true := decide_eq_true (by omega)
     clear c9
     have H' := Aside0.mk H
     clear H
     have p10 : 0 ≤ (0 : Int) := (by omega)
     have q10 : 0 < a0.size := (by have : (0 : Int) < (a0.size : Int) := of_decide_eq_true (by first | (with_reducible assumption) | assumption); omega)
     have hx10 : ∀ h : 0 < a0.size, ((a0[0]'h).toNat : Int) = bt a0 0 := bt_at a0 0
     clear p10
     have qi10 : (0 < (a0.size : Int)) = True := eq_true (of_decide_eq_true (by first | (with_reducible assumption) | assumption))
     replace q10 := eq_true q10
     go_wp2_with (first | ((with_reducible refine gate_dst (N := 4) rfl ?_); (try (refine gate_guard (by rfl) ?_; dsimp only)); refine bx_ 4 #[.int .i64 0, .slice none 0 0] 29 ?_; intro gb153 hg w11 hbox hb; have BK153 := Aside0.mk (hbox); have GW153 := gw_ hg; have GE153 := gw_ hg; have NB152_153 := nl_ hg BK152; have NB153_152 := ng_ hg BK152; replace BK152 := bkb_ BK152 hb; replace HB := bs_ hb; clear hb hbox hg; have hnb12 := NB153_152.out; have hnc12 := NB152_153.out; obtain ⟨hcz13_0, hcz13_1, hfz13_0, hfz13_1⟩ := b2_ BK153))
     go_loopg [5] kj1 (fun kq v5 w' => ∃ (x5_2 : Int) (x153000_2 : Int) (x154001_2 : List (S46)) (u154001 : Value), v5 = .int .i64 x5_2 ∧ Aside0 (spec_GetBag.l0 kq a0 x5_2 (wrap64 (bt a0 0)) x154001_2 = some (r1, r2, r3)) ∧ Aside0 (kq ≤ kj1) ∧ Aside0 (Kd.S k46 46 w' w.heap.size (fun _ => True) u154001 x154001_2) ∧ Aside0 (w'.heap[gb152]? = some (.cells #[.int .i64 x153000_2, (.slice none 0 0)] 29 (0, 0))) ∧ Aside0 (w'.heap[gb153]? = some (.cells #[.int .i64 (wrap64 (bt a0 0)), u154001] 29 (0, 0))) ∧ Aside0 (Below w.heap.size w w'))
     case atStart => exact ⟨(1), (0), (([] : List (S46))), (.slice none 0 0), rs_, H', ⟨Nat.le_refl _⟩, ⟨by first | exact Kd.S_nil _ _ _ _ _ | exact Kd.N_nil _ _ _ _ _ | exact Kd.V_nil _ _ _ _ _ | exact Kd.Q_nil _ _ _ _ _ | exact Kd.R_nil _ _ _ _ _⟩, ⟨(bf2_ NB152_153 (bkx_ BK152.out))⟩, ⟨(bp2_ (bkx_ BK153.out))⟩, ⟨bb_⟩⟩
     case round =>
      clear H'
      try clear c1
      try clear p1
      try clear q1
      try clear hx1
      try clear qi1
      try clear p2
      try clear c4
      try clear c4b0
      try clear c4b1
      try clear c5
      try clear c5b0
      try clear c5b1
      try clear p6
      try clear q6
      try clear hx6
      try clear qi6
      try clear c7
      try clear c9
      try clear c9b0
      try clear c9b1
      try clear c10
      try clear p10
      try clear q10
      try clear hx10
      try clear qi10
      try clear c12
      try clear hcz13_0
      try clear hcz13_1
      try clear hcz8_0
      try clear hcz8_1
      try clear hfz13_0
      try clear hfz13_1
      try clear hfz8_0
      try clear hfz8_1
      try clear p10
      try clear p2
      try clear p6
      try clear q10
      try clear q6
      obtain ⟨x5_2, x153000_2, x154001_2, u154001, rfl, HA, HK2, HO_154001, BK152, BK153, HB⟩ := hrel
      cases gk with
      | zero => exact absurd HA.out (by simp [spec_GetBag.l0])
      | succ k2 =>
       have H := HA.out
       clear HA
       simp only [spec_GetBag.l0] at H
       have HC14 := Aside0.mk H
       clear H
       go_upto_region 5 with (fail)
       go_cut [34] (fun v34 wc => ∃ (kq : Nat) (x34_13 : Bool), v34 = .bool x34_13 ∧ Aside0 (spec_GetBag.j2 kq a0 x5_2 x34_13 (wrap64 (bt a0 0)) x154001_2 = some (r1, r2, r3)) ∧ Aside0 (kq ≤ k2) ∧ Aside0 (Kd.S k46 46 wc w.heap.size (fun _ => True) u154001 x154001_2) ∧ Aside0 (wc.heap[gb152]? = some (.cells #[.int .i64 x153000_2, (.slice none 0 0)] 29 (0, 0))) ∧ Aside0 (wc.heap[gb153]? = some (.cells #[.int .i64 (wrap64 (bt a0 0)), u154001] 29 (0, 0))) ∧ Aside0 (Below w.heap.size w wc))
       case first =>
        have H := HC14.out
        clear HC14
        by_cases c15 : x5_2 < (a0.size : Int)
        ·rw [if_pos c15] at H
         have c15b0 : decide (x5_2 < (a0.size : Int)) = true := decide_eq_true c15
         clear c15
         (first | rw [c15b0] | (simp only [i64_w, i32_w]; rw [c15b0]) | skip)
         have H' := Aside0.mk H
         clear H
         have hnb16 := NB153_152.out
         have hnc16 := NB152_153.out
         have hcz17_0 : wr.cell? ⟨gb153, 0, none⟩ = some (.int .i64 (wrap64 (bt a0 0))) := bc_ BK153 0
         have hcz17_1 := bc_ (v := (u154001)) BK153 1
         have hfz17_0 := blk_frozen BK153.out 0
         have hfz17_1 := blk_frozen BK153.out 1
         obtain ⟨Ao18, co18, eo18⟩ := Kd.S_slice HO_154001.out
         subst eo18
         go_wp2
         go_meet
         case rel => exact ⟨_, (decide ((x154001_2.length : Int) ≤ 400)), rs_, H', ⟨by have := HJ1.out; have := HK2.out; first | omega | exact Nat.le_refl _⟩, ⟨by (with_reducible repeat (first | apply Kd.S_alloc | apply Kd.S_drewN | apply Kd.S_drew)); exact HO_154001.out⟩, ⟨bkx_ BK152.out⟩, ⟨bkx_ BK153.out⟩, ⟨bb_⟩⟩
        ·rw [if_neg c15] at H
         have c15b0 : decide (x5_2 < (a0.size : Int)) = false := decide_eq_false c15
         clear c15
         (first | rw [c15b0] | (simp only [i64_w, i32_w]; rw [c15b0]) | skip)
         have H' := Aside0.mk H
         clear H
         go_wp2
         go_meet
         case rel => exact ⟨_, (false), rs_, H', ⟨by have := HJ1.out; have := HK2.out; first | omega | exact Nat.le_refl _⟩, ⟨by (with_reducible repeat (first | apply Kd.S_alloc | apply Kd.S_drewN | apply Kd.S_drew)); exact HO_154001.out⟩, ⟨bkx_ BK152.out⟩, ⟨bkx_ BK153.out⟩, ⟨bb_⟩⟩
       case rest =>
        clear HC14
        try clear c1
        try clear p1
        try clear q1
        try clear hx1
        try clear qi1
        try clear p2
        try clear c4
        try clear c4b0
        try clear c4b1
        try clear c5
        try clear c5b0
        try clear c5b1
        try clear p6
        try clear q6
        try clear hx6
        try clear qi6
        try clear c7
        try clear c9
        try clear c9b0
        try clear c9b1
        try clear c10
        try clear p10
        try clear q10
        try clear hx10
        try clear qi10
        try clear c12
        try clear c15
        try clear c15b0
        try clear c16
        try clear hcz13_0
        try clear hcz13_1
        try clear hcz17_0
        try clear hcz17_1
        try clear hcz8_0
        try clear hcz8_1
        try clear hfz13_0
        try clear hfz13_1
        try clear hfz17_0
        try clear hfz17_1
        try clear hfz8_0
        try clear hfz8_1
        try clear p1
        try clear p10
        try clear p2
        try clear p6
        try clear q1
        try clear q10
        try clear q6
        obtain ⟨kq, x34_13, rfl, HA, HJ13, HO_154001, BK152, BK153, HB⟩ := hcut
        cases kq with
        | zero => exact absurd HA.out (by simp [spec_GetBag.j2])
        | succ kj13 =>
         have H := HA.out
         clear HA
         simp only [spec_GetBag.j2] at H
         by_cases c19 : x34_13 = true
         ·subst c19
          have H1 : ((spec_GetValue.f kj13 a0 x5_2).bind fun bt155 => (spec_GetBag.l1 kj13 a0 bt155.2.2.2 0 (wrap64 (bt a0 0)) x154001_2 ([] : List (S42)) bt155.2.1)) = some (r1, r2, r3) := by rw [if_pos rfl] at H; exact H
          clear H
          have H := H1
          clear H1
          replace H := Option.bind_eq_some_iff.mp H
          obtain ⟨⟨t155, t156, t157, t158⟩, A200, H⟩ := H
          replace H : (spec_GetBag.l1 kj13 a0 t158 0 (wrap64 (bt a0 0)) x154001_2 ([] : List (S42)) t156) = some (r1, r2, r3) := H
          have A20 := Aside0.mk A200
          clear A200
          have H' := Aside0.mk H
          clear H
          go_wp2_with (first | ((with_reducible refine gate_callee (f := 26) rfl ?_); refine gsL_ (some 38) Try.func26 #[.string a0, .int .i64 x5_2] ?_; (with_reducible refine (spec_GetValue.calls kj13 a0 x5_2 t155 t156 t157 t158 _ A20.out).mono ?_); rintro e w21 ⟨rfl, hb⟩; refine ⟨_, rfl, ?_⟩; replace HO_154001 := Aside0.mk (Kd.S_below (sk_ HO_154001.out) hb); replace BK152 := bkb_ BK152 hb; replace BK153 := bkb_ BK153 hb; replace HB := bs_ hb; (try clear hb); (try clear hb2); (try clear hk); (try clear hi)) | ((with_reducible refine gate_dst (N := 6) rfl ?_); (try (refine gate_guard (by rfl) ?_; dsimp only)); refine bx_ 6 #[.int .i64 0, .int .i64 0, .string (⟨#[]⟩ : ByteArray)] 42 ?_; intro gb159 hg w22 hbox hb; have BK159 := Aside0.mk (hbox); have GW159 := gw_ hg; have GE159 := gw_ hg; have NB152_159 := nl_ hg BK152; have NB159_152 := ng_ hg BK152; have NB153_159 := nl_ hg BK153; have NB159_153 := ng_ hg BK153; replace HO_154001 := Aside0.mk (Kd.S_below (Kd.S_elderB (sk_ HO_154001.out) gb159 (Nat.le_of_eq hg.symm)) hb); replace BK152 := bkb_ BK152 hb; replace BK153 := bkb_ BK153 hb; replace HB := bs_ hb; clear hb hbox hg; have hnb23 := NB159_152.out; have hnc23 := NB152_159.out; have hnb24 := NB159_153.out; have hnc24 := NB153_159.out; obtain ⟨hcz25_0, hcz25_1, hcz25_2, hfz25_0, hfz25_1, hfz25_2⟩ := b3_ BK159) | ((with_reducible refine gate_dst (N := 8) rfl ?_); (try (refine gate_guard (by rfl) ?_; dsimp only)); refine bx_ 8 #[.slice none 0 0, .int .i64 0] 46 ?_; intro gb160 hg w26 hbox hb; have BK160 := Aside0.mk (hbox); have GW160 := gw_ hg; have GE160 := gw_ hg; have NB152_160 := Aside0.mk ((by rw [hg]; exact Nat.ne_of_lt (blk_lt (g := gb152) (o := .cells #[.int .i64 x153000_2, .slice none 0 0] 29 (0, 0)) (bf3_ NB152_159 (bkx_ BK152.out))) : gb152 ≠ gb160)); have NB160_152 := Aside0.mk ((by rw [hg]; exact Nat.ne_of_gt (blk_lt (g := gb152) (o := .cells #[.int .i64 x153000_2, .slice none 0 0] 29 (0, 0)) (bf3_ NB152_159 (bkx_ BK152.out))) : gb160 ≠ gb152)); have NB153_160 := Aside0.mk ((by rw [hg]; exact Nat.ne_of_lt (blk_lt (g := gb153) (o := .cells #[.int .i64 (wrap64 (bt a0 0)), u154001] 29 (0, 0)) (bf3_ NB153_159 (bkx_ BK153.out))) : gb153 ≠ gb160)); have NB160_153 := Aside0.mk ((by rw [hg]; exact Nat.ne_of_gt (blk_lt (g := gb153) (o := .cells #[.int .i64 (wrap64 (bt a0 0)), u154001] 29 (0, 0)) (bf3_ NB153_159 (bkx_ BK153.out))) : gb160 ≠ gb153)); have NB159_160 := Aside0.mk ((by rw [hg]; exact Nat.ne_of_lt (blk_lt (g := gb159) (o := .cells #[.int .i64 t155, .int .i64 t156, .string t157] 42 (0, 0)) (bp3_ (bkx_ BK159.out))) : gb159 ≠ gb160)); have NB160_159 := Aside0.mk ((by rw [hg]; exact Nat.ne_of_gt (blk_lt (g := gb159) (o := .cells #[.int .i64 t155, .int .i64 t156, .string t157] 42 (0, 0)) (bp3_ (bkx_ BK159.out))) : gb160 ≠ gb159)); replace HO_154001 := Aside0.mk (Kd.S_below (Kd.S_elderB (sk_ (Kd.S_mono (Kd.S_far (p := ⟨gb159, 2, none⟩) (Kd.S_far (p := ⟨gb159, 1, none⟩) (Kd.S_far (p := ⟨gb159, 0, none⟩) (Kd.S_mono HO_154001.out (fun k_ hk => (⟨hk, hk.2⟩ : _ ∧ k_ ≠ gb159))) (fun _ hk => hk.2) (.int .i64 t155)) (fun _ hk => hk.2) (.int .i64 t156)) (fun _ hk => hk.2) (.string t157)) (fun _ h_ => h_.1))) gb160 (Nat.le_of_eq hg.symm)) hb); replace BK152 := Aside0.mk (blk_below (g := gb152) (o := .cells #[.int .i64 x153000_2, .slice none 0 0] 29 (0, 0)) (bf3_ NB152_159 (bkx_ BK152.out)) hb); replace BK153 := Aside0.mk (blk_below (g := gb153) (o := .cells #[.int .i64 (wrap64 (bt a0 0)), u154001] 29 (0, 0)) (bf3_ NB153_159 (bkx_ BK153.out)) hb); replace BK159 := Aside0.mk (blk_below (g := gb159) (o := .cells #[.int .i64 t155, .int .i64 t156, .string t157] 42 (0, 0)) (bp3_ (bkx_ BK159.out)) hb); replace HB := bs_ hb; clear hb hbox hg; have hnb27 := NB160_152.out; have hnc27 := NB152_160.out; have hnb28 := NB160_153.out; have hnc28 := NB153_160.out; have hnb29 := NB160_159.out; have hnc29 := NB159_160.out; obtain ⟨hcz30_0, hcz30_1, hfz30_0, hfz30_1⟩ := b2_ BK160))
          go_loopg [5, 9] kj13 (fun kq v5 v9 w' => ∃ (x5_4 : Int) (x9_4 : Int) (x161000_4 : List (S42)) (u161000 : Value), v5 = .int .i64 x5_4 ∧ v9 = .int .i64 x9_4 ∧ Aside0 (spec_GetBag.l1 kq a0 x5_4 x9_4 (wrap64 (bt a0 0)) x154001_2 x161000_4 t156 = some (r1, r2, r3)) ∧ Aside0 (kq ≤ kj13) ∧ Aside0 (Kd.S k46 46 w' w.heap.size (fun k_ => some k_ ≠ (u161000 : Value).ownBlock ∧ k_ ≠ gb159 ∧ k_ ≠ gb160) u154001 x154001_2) ∧ Aside0 (Kd.R k42 42 w' w.heap.size (fun k_ => k_ ≠ gb159) u161000 x161000_4) ∧ Aside0 (w'.heap[gb152]? = some (.cells #[.int .i64 x153000_2, (.slice none 0 0)] 29 (0, 0))) ∧ Aside0 (w'.heap[gb153]? = some (.cells #[.int .i64 (wrap64 (bt a0 0)), u154001] 29 (0, 0))) ∧ Aside0 (w'.heap[gb159]? = some (.cells #[.int .i64 t155, .int .i64 t156, .string t157] 42 (0, 0))) ∧ Aside0 (w'.heap[gb160]? = some (.cells #[u161000, .int .i64 t156] 46 (0, 0))) ∧ Aside0 (Below w.heap.size w w'))
          case atStart => exact ⟨(t158), (0), (([] : List (S42))), (.slice none 0 0), rs_, rs_, H', ⟨Nat.le_refl _⟩, ⟨by (with_reducible repeat (first | apply Kd.S_alloc | apply Kd.S_drewN | apply Kd.S_drew)); exact Kd.S_mono (Kd.S_far (p := ⟨gb160, 1, none⟩) (Kd.S_far (p := ⟨gb160, 0, none⟩) (Kd.S_mono HO_154001.out (fun k_ hk => (⟨hk, hk.2⟩ : _ ∧ k_ ≠ gb160))) (fun _ hk => hk.2) (.slice none 0 0)) (fun _ hk => hk.2) (.int .i64 t156)) (fun _ hk => ⟨(by simp [Value.ownBlock]), ⟨hk.1.1.2, hk.1.2⟩⟩)⟩, ⟨by first | exact Kd.R_nil _ _ _ _ _ | exact Kd.N_nil _ _ _ _ _ | exact Kd.V_nil _ _ _ _ _ | exact Kd.Q_nil _ _ _ _ _ | exact Kd.S_nil _ _ _ _ _⟩, ⟨(bf2_ NB152_160 (bkx_ BK152.out))⟩, ⟨(bf2_ NB153_160 (bkx_ BK153.out))⟩, ⟨(bf2_ NB159_160 (bkx_ BK159.out))⟩, ⟨(bp2_ (bkx_ BK160.out))⟩, ⟨bb_⟩⟩
          case round =>
           clear H'
           try clear c1
           try clear p1
           try clear q1
           try clear hx1
           try clear qi1
           try clear c2
           try clear p2
           try clear c4
           try clear c4b0
           try clear c4b1
           try clear c5
           try clear c5b0
           try clear c5b1
           try clear p6
           try clear q6
           try clear hx6
           try clear qi6
           try clear c7
           try clear c9
           try clear c9b0
           try clear c9b1
           try clear c10
           try clear p10
           try clear q10
           try clear hx10
           try clear qi10
           try clear c12
           try clear c15
           try clear c15b0
           try clear c16
           try clear c19
           try clear c23
           try clear c24
           try clear c26
           try clear c27
           try clear c28
           try clear c29
           try clear hcz13_0
           try clear hcz13_1
           try clear hcz17_0
           try clear hcz17_1
           try clear hcz25_0
           try clear hcz25_1
           try clear hcz25_2
           try clear hcz30_0
           try clear hcz30_1
           try clear hcz8_0
           try clear hcz8_1
           try clear hfz13_0
           try clear hfz13_1
           try clear hfz17_0
           try clear hfz17_1
           try clear hfz25_0
           try clear hfz25_1
           try clear hfz25_2
           try clear hfz30_0
           try clear hfz30_1
           try clear hfz8_0
           try clear hfz8_1
           try clear p1
           try clear p10
           try clear p2
           try clear p6
           try clear q1
           try clear q10
           try clear q6
           obtain ⟨x5_4, x9_4, x161000_4, u161000, rfl, rfl, HA, HK4, HO_154001, HO_161000, BK152, BK153, BK159, BK160, HB⟩ := hrel
           cases gk with
           | zero => exact absurd HA.out (by simp [spec_GetBag.l1])
           | succ k4 =>
            have H := HA.out
            clear HA
            simp only [spec_GetBag.l1] at H
            by_cases c31 : x9_4 < (wrap64 (bt a0 0))
            ·rw [if_pos c31] at H
             have c31b0 : decide (x9_4 < (wrap64 (bt a0 0))) = true := decide_eq_true c31
             clear c31
             by_cases c32 : x5_4 ≥ 0
             ·rw [if_pos c32] at H
              have c32b0 : decide (0 ≤ x5_4) = true := decide_eq_true c32
              clear c32
              replace H := Option.bind_eq_some_iff.mp H
              obtain ⟨⟨t161, t162, t163, t164⟩, A330, H⟩ := H
              replace H : (if x161000_4.length < 4398046511104 then (spec_GetBag.l1 k4 a0 t164 (wrap64 (x9_4 + 1)) (wrap64 (bt a0 0)) x154001_2 (x161000_4 ++ [(⟨t161, t162, t163⟩ : S42)]) t156) else (none)) = some (r1, r2, r3) := H
              have A33 := Aside0.mk A330
              clear A330
              by_cases c34 : x161000_4.length < 4398046511104
              ·rw [if_pos c34] at H
               have LMc34 := Aside0.mk c34
               clear c34
               obtain ⟨y166, hy166⟩ : ∃ y_ : List (S42), y_ = (x161000_4 ++ [(⟨t161, t162, t163⟩ : S42)]) := ⟨_, rfl⟩
               replace H : (spec_GetBag.l1 k4 a0 t164 (wrap64 (x9_4 + 1)) (wrap64 (bt a0 0)) x154001_2 y166 t156) = some (r1, r2, r3) := by first | (rw [hy166]; with_reducible exact H) | (have H2_ := (Option.bind_some _ _).symm.trans H; rw [hy166]; with_reducible exact H2_) | (have H2_ := (Option.bind_some _ _).symm.trans H; with_reducible exact H2_) | with_reducible exact H | (rw [hy166]; exact H) | exact H
               have Ny166 := Aside0.mk hy166
               clear hy166
               have H' := Aside0.mk H
               clear H
               have hnb35 := NB153_152.out
               have hnc35 := NB152_153.out
               have hnb36 := NB153_159.out
               have hnc36 := NB159_153.out
               have hnb37 := NB153_160.out
               have hnc37 := NB160_153.out
               have hcz38_0 : wr.cell? ⟨gb153, 0, none⟩ = some (.int .i64 (wrap64 (bt a0 0))) := bc_ BK153 0
               have hcz38_1 := bc_ (v := (u154001)) BK153 1
               have hfz38_0 := blk_frozen BK153.out 0
               have hfz38_1 := blk_frozen BK153.out 1
               go_wp2_with (first | ((with_reducible refine gate_callee (f := 26) rfl ?_); refine gsL_ (some 58) Try.func26 #[.string a0, .int .i64 x5_4] ?_; (with_reducible refine (spec_GetValue.calls k4 a0 x5_4 t161 t162 t163 t164 _ A33.out).mono ?_); rintro e w39 ⟨rfl, hb⟩; refine ⟨_, rfl, ?_⟩; replace HO_154001 := Aside0.mk (Kd.S_below (sk_ HO_154001.out) hb); replace HO_161000 := Aside0.mk (Kd.R_below (rk_ HO_161000.out) hb); replace BK152 := bkb_ BK152 hb; replace BK153 := bkb_ BK153 hb; replace BK159 := bkb_ BK159 hb; replace BK160 := bkb_ BK160 hb; replace HB := bs_ hb; (try clear hb); (try clear hb2); (try clear hk); (try clear hi)) | ((with_reducible refine gate_dst (N := 10) rfl ?_); (try (refine gate_guard (by rfl) ?_; dsimp only)); refine bx_ 10 #[.int .i64 0, .int .i64 0, .string (⟨#[]⟩ : ByteArray)] 42 ?_; intro gb165 hg w40 hbox hb; have BK165 := Aside0.mk (hbox); have GW165 := gw_ hg; have GE165 := gw_ hg; have NB152_165 := nl_ hg BK152; have NB165_152 := ng_ hg BK152; have NB153_165 := nl_ hg BK153; have NB165_153 := ng_ hg BK153; have NB159_165 := nl_ hg BK159; have NB165_159 := ng_ hg BK159; have NB160_165 := nl_ hg BK160; have NB165_160 := ng_ hg BK160; replace HO_154001 := Aside0.mk (Kd.S_below (Kd.S_elderB (sk_ HO_154001.out) gb165 (Nat.le_of_eq hg.symm)) hb); replace HO_161000 := Aside0.mk (Kd.R_below (Kd.R_elderB (rk_ HO_161000.out) gb165 (Nat.le_of_eq hg.symm)) hb); replace BK152 := bkb_ BK152 hb; replace BK153 := bkb_ BK153 hb; replace BK159 := bkb_ BK159 hb; replace BK160 := bkb_ BK160 hb; replace HB := bs_ hb; clear hb hbox hg; have hnb41 := NB165_152.out; have hnc41 := NB152_165.out; have hnb42 := NB165_153.out; have hnc42 := NB153_165.out; have hnb43 := NB165_159.out; have hnc43 := NB159_165.out; have hnb44 := NB165_160.out; have hnc44 := NB160_165.out; obtain ⟨hcz45_0, hcz45_1, hcz45_2, hfz45_0, hfz45_1, hfz45_2⟩ := b3_ BK165; have hnb46 := NB160_152.out; have hnc46 := NB152_160.out; have hnb47 := NB160_159.out; have hnc47 := NB159_160.out; obtain ⟨hcz48_0, hcz48_1, hfz48_0, hfz48_1⟩ := b2_ BK160) | ((with_reducible refine gate_builtin (b := .append) (xs := #[.tmp 62, .tmp 64]) rfl ?_); (try (refine gate_guard (by rfl) ?_; dsimp only)); at_builtin; refine Kd.R_append k42 (w0 := w) w.heap.size rfl (.tmp 62) (.tmp 64) 44 42 (.agg #[(.int .i64 0), (.int .i64 0), (.string ⟨#[]⟩)]) 32 rfl Try.underlying44 info42 rfl (by decide) (by omega) u161000 x161000_4 (⟨t161, t162, t163⟩ : S42) [.int .i64 t161, .int .i64 t162, .string t163] (fun k_ => k_ ≠ gb159 ∧ k_ ≠ gb165) (fun _ => False) rfl (by first | (go_simp; done) | (go_simp; rfl)) ?aP (fun _ hk => hk.elim) ?aF ?aO ?aB ?aS ?aL ?_; (case aP => exact k42_mkM _ _ _ (⟨t161, t162, t163⟩ : S42)); (case aB => exact bb_); (case aF => exact (fun k_ hk => ⟨Kd.freshB (g := gb159) (o := .cells #[.int .i64 t155, .int .i64 t156, .string t157] 42 (0, 0)) (bf3_ NB159_165 (bkx_ BK159.out)) k_ hk, Kd.freshB (g := gb165) (o := .cells #[.int .i64 t161, .int .i64 t162, .string t163] 42 (0, 0)) (bp3_ (bkx_ BK165.out)) k_ hk⟩)); (case aO => exact (rk_ (Kd.R_mono (Kd.R_far (p := ⟨gb165, 2, none⟩) (Kd.R_far (p := ⟨gb165, 1, none⟩) (Kd.R_far (p := ⟨gb165, 0, none⟩) (Kd.R_mono HO_161000.out (fun k_ hk => (⟨hk, hk.2⟩ : _ ∧ k_ ≠ gb165))) (fun _ hk => hk.2) (.int .i64 t161)) (fun _ hk => hk.2) (.int .i64 t162)) (fun _ hk => hk.2) (.string t163)) (fun _ hk => ⟨hk.1.1, hk.1.2⟩)))); (case aS => exact (below_size bb_)); (case aL => have := LMc34.out; omega); intro v167 w49 ho hb hg hat; rw [← Ny166.out] at ho; have HO168 := Aside0.mk (ho); replace HO_154001 := Aside0.mk (Kd.S_after (ok := (fun k_ => k_ ≠ gb159 ∧ k_ ≠ gb160 ∧ k_ ≠ gb165)) (sk_ (Kd.S_mono (Kd.S_far (p := ⟨gb165, 2, none⟩) (Kd.S_far (p := ⟨gb165, 1, none⟩) (Kd.S_far (p := ⟨gb165, 0, none⟩) (Kd.S_mono HO_154001.out (fun k_ hk => (⟨hk, hk.2⟩ : _ ∧ k_ ≠ gb165))) (fun _ hk => hk.2) (.int .i64 t161)) (fun _ hk => hk.2) (.int .i64 t162)) (fun _ hk => hk.2) (.string t163)) (fun _ hk => ⟨⟨hk.1.1.2.1, ⟨hk.1.1.2.2, hk.1.2⟩⟩, hk.1.1.1⟩))) hg hat); replace BK152 := Aside0.mk (blk_grown (g := gb152) (o := .cells #[.int .i64 x153000_2, .slice none 0 0] 29 (0, 0)) (bf3_ NB152_165 (bkx_ BK152.out)) hg (Kd.R_ne HO_161000.out BK152.out (by decide))); replace BK153 := Aside0.mk (blk_grown (g := gb153) (o := .cells #[.int .i64 (wrap64 (bt a0 0)), u154001] 29 (0, 0)) (bf3_ NB153_165 (bkx_ BK153.out)) hg (Kd.R_ne HO_161000.out BK153.out (by decide))); replace BK159 := Aside0.mk (blk_grown (g := gb159) (o := .cells #[.int .i64 t155, .int .i64 t156, .string t157] 42 (0, 0)) (bf3_ NB159_165 (bkx_ BK159.out)) hg (Kd.R_away HO_161000.out (fun _ hk => hk.1))); replace BK160 := Aside0.mk (blk_grown (g := gb160) (o := .cells #[u161000, .int .i64 t156] 46 (0, 0)) (bf3_ NB160_165 (bkx_ BK160.out)) hg (Kd.R_ne HO_161000.out BK160.out (by decide))); replace BK165 := Aside0.mk (blk_grown (g := gb165) (o := .cells #[.int .i64 t161, .int .i64 t162, .string t163] 42 (0, 0)) (bp3_ (bkx_ BK165.out)) hg (Kd.R_away HO_161000.out (fun _ hk => hk.2))); replace HB := Aside0.mk (hb); clear HO_161000; clear ho hb hg hat; obtain ⟨Ao50, co50, eo50⟩ := Kd.R_slice HO168.out; subst eo50; obtain ⟨hcz51_0, hcz51_1, hfz51_0, hfz51_1⟩ := b2_ BK160))
               go_roundg k4
               case measure => have := HJ1.out; have := HK2.out; have := HJ13.out; have := HK4.out; omega
               case rel => exact ⟨(t164), (wrap64 (x9_4 + 1)), (y166), (.slice Ao50 y166.length co50), rs_, rs_, H', ⟨by have := HJ1.out; have := HK2.out; have := HJ13.out; have := HK4.out; omega⟩, ⟨by (with_reducible repeat (first | apply Kd.S_alloc | apply Kd.S_drewN | apply Kd.S_drew)); exact Kd.S_mono (Kd.S_far (p := ⟨gb160, 0, none⟩) (Kd.S_mono HO_154001.out (fun k_ hk => (⟨hk, hk.1.2.1⟩ : _ ∧ k_ ≠ gb160))) (fun _ hk => hk.2) (.slice Ao50 y166.length co50)) (fun _ hk => ⟨hk.1.2, ⟨hk.1.1.1, hk.1.1.2.1⟩⟩)⟩, ⟨by (with_reducible repeat (first | apply Kd.R_alloc | apply Kd.R_drewN | apply Kd.R_drew)); exact Kd.R_mono (Kd.R_far (p := ⟨gb160, 0, none⟩) (Kd.R_types HO168.out BK160.out (by decide)) (fun _ hk => hk.2) (.slice Ao50 y166.length co50)) (fun _ hk => hk.1.1)⟩, ⟨(bf1_ NB152_160 (bkx_ BK152.out))⟩, ⟨(bf1_ NB153_160 (bkx_ BK153.out))⟩, ⟨(bf1_ NB159_160 (bkx_ BK159.out))⟩, ⟨by (with_reducible repeat (first | refine blk_drewN ?_ _ | refine blk_drew ?_ | refine blk_alloc ?_ _)); refine blk_put (cs := #[u161000, .int .i64 t156]) ?_ 0 _ rfl; (with_reducible repeat (first | refine blk_drewN ?_ _ | refine blk_drew ?_ | refine blk_alloc ?_ _)); exact BK160.out⟩, ⟨bb_⟩⟩
              ·rw [if_neg c34] at H
               exact absurd H (by simp)
             ·rw [if_neg c32] at H
              have c32b0 : decide (0 ≤ x5_4) = false := decide_eq_false c32
              clear c32
              by_cases c52 : x5_4 < 0
              ·rw [if_pos c52] at H
               have c52b0 : decide (x5_4 < 0) = true := decide_eq_true c52
               clear c52
               simp only [Option.some.injEq, Prod.mk.injEq] at H
               obtain ⟨rfl, rfl, rfl⟩ := H
               have hnb53 := NB153_152.out
               have hnc53 := NB152_153.out
               have hnb54 := NB153_159.out
               have hnc54 := NB159_153.out
               have hnb55 := NB153_160.out
               have hnc55 := NB160_153.out
               have hcz56_0 : wr.cell? ⟨gb153, 0, none⟩ = some (.int .i64 (wrap64 (bt a0 0))) := bc_ BK153 0
               have hcz56_1 := bc_ (v := (u154001)) BK153 1
               have hfz56_0 := blk_frozen BK153.out 0
               have hfz56_1 := blk_frozen BK153.out 1
               have hnb57 := NB152_159.out
               have hnc57 := NB159_152.out
               have hnb58 := NB152_160.out
               have hnc58 := NB160_152.out
               obtain ⟨hcz59_0, hcz59_1, hfz59_0, hfz59_1⟩ := b2_ BK152
               go_wp2
               refine bodyPost_ret (results_ct rfl _ _ gb152 29 #[.int .i64 0, .slice none 0 0] (0, 0) _ rfl (bp2_ (bkx_ BK152.out)) Try.underlying29 rfl (by kernel_rfl)) rfl ?_
               exact ⟨_, by first | rfl | (simp [errW_none, errW_some] <;> rfl) | (simp [*, errW_none, errW_some] <;> rfl), by first | exact Kd.S_nil _ _ _ _ _ | exact Kd.N_nil _ _ _ _ _ | exact Kd.V_nil _ _ _ _ _ | exact Kd.Q_nil _ _ _ _ _ | exact Kd.R_nil _ _ _ _ _, by repeat (first | (with_reducible first | exact HB.out | apply below_alloc | apply pw_below_drewN | apply below_drew1 | refine below_set ?_ GE152.out | refine below_set ?_ GE153.out | refine below_set ?_ GE159.out | refine below_set ?_ GE160.out) | exact HB.out)⟩
              ·rw [if_neg c52] at H
               have c52b0 : decide (x5_4 < 0) = false := decide_eq_false c52
               clear c52
               by_cases c60 : x154001_2.length < 4398046511104
               ·rw [if_pos c60] at H
                have LMc60 := Aside0.mk c60
                clear c60
                obtain ⟨y169, hy169⟩ : ∃ y_ : List (S46), y_ = (x154001_2 ++ [(⟨x161000_4, t156⟩ : S46)]) := ⟨_, rfl⟩
                replace H : (spec_GetBag.l0 k4 a0 x5_4 (wrap64 (bt a0 0)) y169) = some (r1, r2, r3) := by first | (rw [hy169]; with_reducible exact H) | (have H2_ := (Option.bind_some _ _).symm.trans H; rw [hy169]; with_reducible exact H2_) | (have H2_ := (Option.bind_some _ _).symm.trans H; with_reducible exact H2_) | with_reducible exact H | (rw [hy169]; exact H) | exact H
                have Ny169 := Aside0.mk hy169
                clear hy169
                have H' := Aside0.mk H
                clear H
                have hnb61 := NB153_152.out
                have hnc61 := NB152_153.out
                have hnb62 := NB153_159.out
                have hnc62 := NB159_153.out
                have hnb63 := NB153_160.out
                have hnc63 := NB160_153.out
                have hcz64_0 : wr.cell? ⟨gb153, 0, none⟩ = some (.int .i64 (wrap64 (bt a0 0))) := bc_ BK153 0
                have hcz64_1 := bc_ (v := (u154001)) BK153 1
                have hfz64_0 := blk_frozen BK153.out 0
                have hfz64_1 := blk_frozen BK153.out 1
                have hnb65 := NB160_152.out
                have hnc65 := NB152_160.out
                have hnb66 := NB160_159.out
                have hnc66 := NB159_160.out
                obtain ⟨hcz67_0, hcz67_1, hfz67_0, hfz67_1⟩ := b2_ BK160
                obtain ⟨Ao69, co69, eo69⟩ := Kd.R_slice HO_161000.out
                subst eo69
                go_wp2_with (first | ((with_reducible refine gate_builtin (b := .append) (xs := #[.tmp 72, .tmp 74]) rfl ?_); (try (refine gate_guard (by rfl) ?_; dsimp only)); at_builtin; refine Kd.S_append k46 (w0 := w) w.heap.size rfl (.tmp 72) (.tmp 74) 27 46 (.agg #[(.slice none 0 0), (.int .i64 0)]) 32 rfl Try.underlying27 info46 rfl (by decide) (by omega) u154001 x154001_2 (⟨x161000_4, t156⟩ : S46) [.slice Ao69 x161000_4.length co69, .int .i64 t156] (fun k_ => k_ ≠ gb159 ∧ k_ ≠ gb160) (fun k_ => some k_ = (.slice Ao69 x161000_4.length co69 : Value).ownBlock) rfl rfl ?aP (fun k_ hk_ => ((Kd.R_mono (ok' := fun k_ => ((fun k_ => k_ ≠ gb159 ∧ k_ ≠ gb160)) k_ ∧ some k_ ≠ (u154001 : Value).ownBlock) (Kd.R_types (Kd.R_apart' (HO_161000.out) (Kd.S_typed HO_154001.out) (by decide)) BK160.out (by decide)) (fun k_ hk => ⟨⟨hk.1.1, hk.2⟩, hk.1.2⟩))).1 k_ hk_.symm) ?aF ?aO ?aB ?aS ?aL ?_; (case aP => exact k46_mkM _ _ _ (⟨x161000_4, t156⟩ : S46) (Kd.R_mono (Kd.R_tight rfl (Kd.R_mono (ok' := fun k_ => ((fun k_ => k_ ≠ gb159 ∧ k_ ≠ gb160)) k_ ∧ some k_ ≠ (u154001 : Value).ownBlock) (Kd.R_types (Kd.R_apart' (HO_161000.out) (Kd.S_typed HO_154001.out) (by decide)) BK160.out (by decide)) (fun k_ hk => ⟨⟨hk.1.1, hk.2⟩, hk.1.2⟩))) (fun _ h_ => h_))); (case aB => exact bb_); (case aF => exact (fun k_ hk => ⟨Kd.freshB (g := gb159) (o := .cells #[.int .i64 t155, .int .i64 t156, .string t157] 42 (0, 0)) (bkx_ BK159.out) k_ hk, Kd.freshB (g := gb160) (o := .cells #[.slice Ao69 x161000_4.length co69, .int .i64 t156] 46 (0, 0)) (bkx_ BK160.out) k_ hk⟩)); (case aO => exact (sk_ (Kd.S_mono HO_154001.out (fun k_ hk => ⟨⟨hk.2.1, hk.2.2⟩, fun e_ => hk.1 e_⟩)))); (case aS => exact (below_size bb_)); (case aL => have := LMc60.out; omega); intro v170 w68 ho hb hg hat; rw [← Ny169.out] at ho; have HO171 := Aside0.mk (ho); replace BK152 := Aside0.mk (blk_grown (g := gb152) (o := .cells #[.int .i64 x153000_2, .slice none 0 0] 29 (0, 0)) (bkx_ BK152.out) hg (Kd.S_ne HO_154001.out BK152.out (by decide))); replace BK153 := Aside0.mk (blk_grown (g := gb153) (o := .cells #[.int .i64 (wrap64 (bt a0 0)), u154001] 29 (0, 0)) (bkx_ BK153.out) hg (Kd.S_ne HO_154001.out BK153.out (by decide))); replace BK159 := Aside0.mk (blk_grown (g := gb159) (o := .cells #[.int .i64 t155, .int .i64 t156, .string t157] 42 (0, 0)) (bkx_ BK159.out) hg (Kd.S_ne HO_154001.out BK159.out (by decide))); replace BK160 := Aside0.mk (blk_grown (g := gb160) (o := .cells #[.slice Ao69 x161000_4.length co69, .int .i64 t156] 46 (0, 0)) (bkx_ BK160.out) hg (Kd.S_away HO_154001.out (fun _ hk => hk.2.2))); replace HB := Aside0.mk (hb); clear HO_154001 HO_161000; clear ho hb hg hat; obtain ⟨Ao70, co70, eo70⟩ := Kd.S_slice HO171.out; subst eo70; have hcz71_0 : w68.cell? ⟨gb153, 0, none⟩ = some (.int .i64 (wrap64 (bt a0 0))) := bc_ BK153 0; have hcz71_1 := bc_ (v := (u154001)) BK153 1; have hfz71_0 := blk_frozen BK153.out 0; have hfz71_1 := blk_frozen BK153.out 1))
                go_roundg k4
                case measure => have := HJ1.out; have := HK2.out; have := HJ13.out; have := HK4.out; omega
                case rel => exact ⟨(x5_4), (x153000_2), (y169), (.slice Ao70 y169.length co70), rs_, H', ⟨by have := HJ1.out; have := HK2.out; have := HJ13.out; have := HK4.out; omega⟩, ⟨by (with_reducible repeat (first | apply Kd.S_alloc | apply Kd.S_drewN | apply Kd.S_drew)); exact Kd.S_mono (Kd.S_far (p := ⟨gb153, 1, none⟩) (Kd.S_types HO171.out BK153.out (by decide)) (fun _ hk => hk.2) (.slice Ao70 y169.length co70)) (fun _ hk => trivial)⟩, ⟨(bf1_ NB152_153 (bkx_ BK152.out))⟩, ⟨by (with_reducible repeat (first | refine blk_drewN ?_ _ | refine blk_drew ?_ | refine blk_alloc ?_ _)); refine blk_put (cs := #[.int .i64 (wrap64 (bt a0 0)), u154001]) ?_ 1 _ rfl; (with_reducible repeat (first | refine blk_drewN ?_ _ | refine blk_drew ?_ | refine blk_alloc ?_ _)); exact BK153.out⟩, ⟨bb_⟩⟩
               ·rw [if_neg c60] at H
                exact absurd H (by simp)
            ·rw [if_neg c31] at H
             have c31b0 : decide (x9_4 < (wrap64 (bt a0 0))) = false := decide_eq_false c31
             clear c31
             by_cases c72 : x5_4 < 0
             ·rw [if_pos c72] at H
              have c72b0 : decide (x5_4 < 0) = true := decide_eq_true c72
              clear c72
              simp only [Option.some.injEq, Prod.mk.injEq] at H
              obtain ⟨rfl, rfl, rfl⟩ := H
              have hnb73 := NB153_152.out
              have hnc73 := NB152_153.out
              have hnb74 := NB153_159.out
              have hnc74 := NB159_153.out
              have hnb75 := NB153_160.out
              have hnc75 := NB160_153.out
              have hcz76_0 : wr.cell? ⟨gb153, 0, none⟩ = some (.int .i64 (wrap64 (bt a0 0))) := bc_ BK153 0
              have hcz76_1 := bc_ (v := (u154001)) BK153 1
              have hfz76_0 := blk_frozen BK153.out 0
              have hfz76_1 := blk_frozen BK153.out 1
              have hnb77 := NB152_159.out
              have hnc77 := NB159_152.out
              have hnb78 := NB152_160.out
              have hnc78 := NB160_152.out
              obtain ⟨hcz79_0, hcz79_1, hfz79_0, hfz79_1⟩ := b2_ BK152
              go_wp2
              refine bodyPost_ret (results_ct rfl _ _ gb152 29 #[.int .i64 0, .slice none 0 0] (0, 0) _ rfl (bp2_ (bkx_ BK152.out)) Try.underlying29 rfl (by kernel_rfl)) rfl ?_
              exact ⟨_, by first | rfl | (simp [errW_none, errW_some] <;> rfl) | (simp [*, errW_none, errW_some] <;> rfl), by first | exact Kd.S_nil _ _ _ _ _ | exact Kd.N_nil _ _ _ _ _ | exact Kd.V_nil _ _ _ _ _ | exact Kd.Q_nil _ _ _ _ _ | exact Kd.R_nil _ _ _ _ _, by repeat (first | (with_reducible first | exact HB.out | apply below_alloc | apply pw_below_drewN | apply below_drew1 | refine below_set ?_ GE152.out | refine below_set ?_ GE153.out | refine below_set ?_ GE159.out | refine below_set ?_ GE160.out) | exact HB.out)⟩
             ·rw [if_neg c72] at H
              have c72b0 : decide (x5_4 < 0) = false := decide_eq_false c72
              clear c72
              by_cases c80 : x154001_2.length < 4398046511104
              ·rw [if_pos c80] at H
               have LMc80 := Aside0.mk c80
               clear c80
               obtain ⟨y172, hy172⟩ : ∃ y_ : List (S46), y_ = (x154001_2 ++ [(⟨x161000_4, t156⟩ : S46)]) := ⟨_, rfl⟩
               replace H : (spec_GetBag.l0 k4 a0 x5_4 (wrap64 (bt a0 0)) y172) = some (r1, r2, r3) := by first | (rw [hy172]; with_reducible exact H) | (have H2_ := (Option.bind_some _ _).symm.trans H; rw [hy172]; with_reducible exact H2_) | (have H2_ := (Option.bind_some _ _).symm.trans H; with_reducible exact H2_) | with_reducible exact H | (rw [hy172]; exact H) | exact H
               have Ny172 := Aside0.mk hy172
               clear hy172
               have H' := Aside0.mk H
               clear H
               have hnb81 := NB153_152.out
               have hnc81 := NB152_153.out
               have hnb82 := NB153_159.out
               have hnc82 := NB159_153.out
               have hnb83 := NB153_160.out
               have hnc83 := NB160_153.out
               have hcz84_0 : wr.cell? ⟨gb153, 0, none⟩ = some (.int .i64 (wrap64 (bt a0 0))) := bc_ BK153 0
               have hcz84_1 := bc_ (v := (u154001)) BK153 1
               have hfz84_0 := blk_frozen BK153.out 0
               have hfz84_1 := blk_frozen BK153.out 1
               have hnb85 := NB160_152.out
               have hnc85 := NB152_160.out
               have hnb86 := NB160_159.out
               have hnc86 := NB159_160.out
               obtain ⟨hcz87_0, hcz87_1, hfz87_0, hfz87_1⟩ := b2_ BK160
               obtain ⟨Ao89, co89, eo89⟩ := Kd.R_slice HO_161000.out
               subst eo89
               go_wp2_with (first | ((with_reducible refine gate_builtin (b := .append) (xs := #[.tmp 72, .tmp 74]) rfl ?_); (try (refine gate_guard (by rfl) ?_; dsimp only)); at_builtin; refine Kd.S_append k46 (w0 := w) w.heap.size rfl (.tmp 72) (.tmp 74) 27 46 (.agg #[(.slice none 0 0), (.int .i64 0)]) 32 rfl Try.underlying27 info46 rfl (by decide) (by omega) u154001 x154001_2 (⟨x161000_4, t156⟩ : S46) [.slice Ao89 x161000_4.length co89, .int .i64 t156] (fun k_ => k_ ≠ gb159 ∧ k_ ≠ gb160) (fun k_ => some k_ = (.slice Ao89 x161000_4.length co89 : Value).ownBlock) rfl rfl ?aP (fun k_ hk_ => ((Kd.R_mono (ok' := fun k_ => ((fun k_ => k_ ≠ gb159 ∧ k_ ≠ gb160)) k_ ∧ some k_ ≠ (u154001 : Value).ownBlock) (Kd.R_types (Kd.R_apart' (HO_161000.out) (Kd.S_typed HO_154001.out) (by decide)) BK160.out (by decide)) (fun k_ hk => ⟨⟨hk.1.1, hk.2⟩, hk.1.2⟩))).1 k_ hk_.symm) ?aF ?aO ?aB ?aS ?aL ?_; (case aP => exact k46_mkM _ _ _ (⟨x161000_4, t156⟩ : S46) (Kd.R_mono (Kd.R_tight rfl (Kd.R_mono (ok' := fun k_ => ((fun k_ => k_ ≠ gb159 ∧ k_ ≠ gb160)) k_ ∧ some k_ ≠ (u154001 : Value).ownBlock) (Kd.R_types (Kd.R_apart' (HO_161000.out) (Kd.S_typed HO_154001.out) (by decide)) BK160.out (by decide)) (fun k_ hk => ⟨⟨hk.1.1, hk.2⟩, hk.1.2⟩))) (fun _ h_ => h_))); (case aB => exact bb_); (case aF => exact (fun k_ hk => ⟨Kd.freshB (g := gb159) (o := .cells #[.int .i64 t155, .int .i64 t156, .string t157] 42 (0, 0)) (bkx_ BK159.out) k_ hk, Kd.freshB (g := gb160) (o := .cells #[.slice Ao89 x161000_4.length co89, .int .i64 t156] 46 (0, 0)) (bkx_ BK160.out) k_ hk⟩)); (case aO => exact (sk_ (Kd.S_mono HO_154001.out (fun k_ hk => ⟨⟨hk.2.1, hk.2.2⟩, fun e_ => hk.1 e_⟩)))); (case aS => exact (below_size bb_)); (case aL => have := LMc80.out; omega); intro v173 w88 ho hb hg hat; rw [← Ny172.out] at ho; have HO174 := Aside0.mk (ho); replace BK152 := Aside0.mk (blk_grown (g := gb152) (o := .cells #[.int .i64 x153000_2, .slice none 0 0] 29 (0, 0)) (bkx_ BK152.out) hg (Kd.S_ne HO_154001.out BK152.out (by decide))); replace BK153 := Aside0.mk (blk_grown (g := gb153) (o := .cells #[.int .i64 (wrap64 (bt a0 0)), u154001] 29 (0, 0)) (bkx_ BK153.out) hg (Kd.S_ne HO_154001.out BK153.out (by decide))); replace BK159 := Aside0.mk (blk_grown (g := gb159) (o := .cells #[.int .i64 t155, .int .i64 t156, .string t157] 42 (0, 0)) (bkx_ BK159.out) hg (Kd.S_ne HO_154001.out BK159.out (by decide))); replace BK160 := Aside0.mk (blk_grown (g := gb160) (o := .cells #[.slice Ao89 x161000_4.length co89, .int .i64 t156] 46 (0, 0)) (bkx_ BK160.out) hg (Kd.S_away HO_154001.out (fun _ hk => hk.2.2))); replace HB := Aside0.mk (hb); clear HO_154001 HO_161000; clear ho hb hg hat; obtain ⟨Ao90, co90, eo90⟩ := Kd.S_slice HO174.out; subst eo90; have hcz91_0 : w88.cell? ⟨gb153, 0, none⟩ = some (.int .i64 (wrap64 (bt a0 0))) := bc_ BK153 0; have hcz91_1 := bc_ (v := (u154001)) BK153 1; have hfz91_0 := blk_frozen BK153.out 0; have hfz91_1 := blk_frozen BK153.out 1))
               go_roundg k4
               case measure => have := HJ1.out; have := HK2.out; have := HJ13.out; have := HK4.out; omega
               case rel => exact ⟨(x5_4), (x153000_2), (y172), (.slice Ao90 y172.length co90), rs_, H', ⟨by have := HJ1.out; have := HK2.out; have := HJ13.out; have := HK4.out; omega⟩, ⟨by (with_reducible repeat (first | apply Kd.S_alloc | apply Kd.S_drewN | apply Kd.S_drew)); exact Kd.S_mono (Kd.S_far (p := ⟨gb153, 1, none⟩) (Kd.S_types HO174.out BK153.out (by decide)) (fun _ hk => hk.2) (.slice Ao90 y172.length co90)) (fun _ hk => trivial)⟩, ⟨(bf1_ NB152_153 (bkx_ BK152.out))⟩, ⟨by (with_reducible repeat (first | refine blk_drewN ?_ _ | refine blk_drew ?_ | refine blk_alloc ?_ _)); refine blk_put (cs := #[.int .i64 (wrap64 (bt a0 0)), u154001]) ?_ 1 _ rfl; (with_reducible repeat (first | refine blk_drewN ?_ _ | refine blk_drew ?_ | refine blk_alloc ?_ _)); exact BK153.out⟩, ⟨bb_⟩⟩
              ·rw [if_neg c80] at H
               exact absurd H (by simp)
         ·replace c19 := Bool.eq_false_iff.mpr c19
          subst c19
          have H1 : ((spec_PutBag.f kj13 (wrap64 (bt a0 0)) x154001_2).bind fun t154 => (if t154.toList = a0.toList then (some ((wrap64 (bt a0 0)), x154001_2, true)) else (some (0, ([] : List (S46)), false)))) = some (r1, r2, r3) := by rw [if_neg (show ¬ (false = true) by decide)] at H; exact H
          clear H
          have H := H1
          clear H1
          replace H := Option.bind_eq_some_iff.mp H
          obtain ⟨t154, A920, H⟩ := H
          replace H : (if t154.toList = a0.toList then (some ((wrap64 (bt a0 0)), x154001_2, true)) else (some (0, ([] : List (S46)), false))) = some (r1, r2, r3) := H
          have A92 := Aside0.mk A920
          clear A920
          by_cases c93 : t154.toList = a0.toList
          ·rw [if_pos c93] at H
           have c93b0 : (t154.toList == a0.toList) = true := beq_iff_eq.mpr c93
           have c93b1 : (t154.toList != a0.toList) = false := bne_eq_false_iff_eq.mpr c93
           clear c93
           simp only [Option.some.injEq, Prod.mk.injEq] at H
           obtain ⟨rfl, rfl, rfl⟩ := H
           have hnb94 := NB153_152.out
           have hnc94 := NB152_153.out
           have hcz95_0 : wc.cell? ⟨gb153, 0, none⟩ = some (.int .i64 (wrap64 (bt a0 0))) := bc_ BK153 0
           have hcz95_1 := bc_ (v := (u154001)) BK153 1
           have hfz95_0 := blk_frozen BK153.out 0
           have hfz95_1 := blk_frozen BK153.out 1
           obtain ⟨Ao96, co96, eo96⟩ := Kd.S_slice HO_154001.out
           subst eo96
           go_wp2_with (first | ((with_reducible refine gate_callee (f := 6) rfl ?_); refine gsL_ (some 78) Try.func6 #[.agg #[.int .i64 (wrap64 (bt a0 0)), .slice Ao96 x154001_2.length co96]] ?_; (with_reducible refine (spec_PutBag.calls kj13 (wrap64 (bt a0 0)) _ _ x154001_2 t154 _ ?side1 ?side2 A92.out).mono ?_); (case side1 => exact ck_ (Kd.S_reads' HO_154001.out).2.2); (case side2 => exact (Kd.S_reads' HO_154001.out).2.1); rintro e w97 ⟨rfl, hb⟩; refine ⟨_, rfl, ?_⟩; replace HO_154001 := Aside0.mk (Kd.S_below (sk_ HO_154001.out) hb); replace BK152 := bkb_ BK152 hb; replace BK153 := bkb_ BK153 hb; replace HB := bs_ hb; (try clear hb); (try clear hb2); (try clear hk); (try clear hi); have hcz98_0 : w97.cell? ⟨gb153, 0, none⟩ = some (.int .i64 (wrap64 (bt a0 0))) := bc_ BK153 0; have hcz98_1 := bc_ (v := (.slice Ao96 x154001_2.length co96)) BK153 1; have hfz98_0 := blk_frozen BK153.out 0; have hfz98_1 := blk_frozen BK153.out 1; obtain ⟨hcz99_0, hcz99_1, hfz99_0, hfz99_1⟩ := b2_ BK152))
           refine bodyPost_ret (results_ct rfl _ _ gb152 29 #[.int .i64 (wrap64 (bt a0 0)), .slice Ao96 x154001_2.length co96] (0, 0) _ rfl (bp2_ (bkx_ BK152.out)) Try.underlying29 rfl (by kernel_rfl)) rfl ?_
           exact ⟨_, by first | rfl | (simp [errW_none, errW_some] <;> rfl) | (simp [*, errW_none, errW_some] <;> rfl), by (with_reducible repeat (first | apply Kd.S_alloc | apply Kd.S_drewN | apply Kd.S_drew)); exact Kd.S_mono (Kd.S_far (p := ⟨gb152, 1, none⟩) (Kd.S_far (p := ⟨gb152, 0, none⟩) (Kd.S_types HO_154001.out BK152.out (by decide)) (fun _ hk => hk.2) (.int .i64 (wrap64 (bt a0 0)))) (fun _ hk => hk.2) (.slice Ao96 x154001_2.length co96)) (fun _ hk => trivial), by repeat (first | (with_reducible first | exact HB.out | apply below_alloc | apply pw_below_drewN | apply below_drew1 | refine below_set ?_ GE152.out | refine below_set ?_ GE153.out) | exact HB.out)⟩
          ·rw [if_neg c93] at H
           have c93b0 : (t154.toList == a0.toList) = false := beq_eq_false_iff_ne.mpr c93
           have c93b1 : (t154.toList != a0.toList) = true := bne_iff_ne.mpr c93
           simp only [Option.some.injEq, Prod.mk.injEq] at H
           obtain ⟨rfl, rfl, rfl⟩ := H
           have hnb100 := NB153_152.out
           have hnc100 := NB152_153.out
           have hcz101_0 : wc.cell? ⟨gb153, 0, none⟩ = some (.int .i64 (wrap64 (bt a0 0))) := bc_ BK153 0
           have hcz101_1 := bc_ (v := (u154001)) BK153 1
           have hfz101_0 := blk_frozen BK153.out 0
           have hfz101_1 := blk_frozen BK153.out 1
           obtain ⟨Ao102, co102, eo102⟩ := Kd.S_slice HO_154001.out
           subst eo102
           go_wp2_with (first | ((with_reducible refine gate_callee (f := 6) rfl ?_); refine gsL_ (some 78) Try.func6 #[.agg #[.int .i64 (wrap64 (bt a0 0)), .slice Ao102 x154001_2.length co102]] ?_; (with_reducible refine (spec_PutBag.calls kj13 (wrap64 (bt a0 0)) _ _ x154001_2 t154 _ ?side1 ?side2 A92.out).mono ?_); (case side1 => exact ck_ (Kd.S_reads' HO_154001.out).2.2); (case side2 => exact (Kd.S_reads' HO_154001.out).2.1); rintro e w103 ⟨rfl, hb⟩; refine ⟨_, rfl, ?_⟩; replace HO_154001 := Aside0.mk (Kd.S_below (sk_ HO_154001.out) hb); replace BK152 := bkb_ BK152 hb; replace BK153 := bkb_ BK153 hb; replace HB := bs_ hb; (try clear hb); (try clear hb2); (try clear hk); (try clear hi); obtain ⟨hcz104_0, hcz104_1, hfz104_0, hfz104_1⟩ := b2_ BK152))
           refine bodyPost_ret (results_ct rfl _ _ gb152 29 #[.int .i64 0, .slice none 0 0] (0, 0) _ rfl (bp2_ (bkx_ BK152.out)) Try.underlying29 rfl (by kernel_rfl)) rfl ?_
           exact ⟨_, by first | rfl | (simp [errW_none, errW_some] <;> rfl) | (simp [*, errW_none, errW_some] <;> rfl), by first | exact Kd.S_nil _ _ _ _ _ | exact Kd.N_nil _ _ _ _ _ | exact Kd.V_nil _ _ _ _ _ | exact Kd.Q_nil _ _ _ _ _ | exact Kd.R_nil _ _ _ _ _, by repeat (first | (with_reducible first | exact HB.out | apply below_alloc | apply pw_below_drewN | apply below_drew1 | refine below_set ?_ GE152.out | refine below_set ?_ GE153.out) | exact HB.out)⟩
    ·rw [if_neg c9] at H
     exact absurd H (by simp)

/-! ### impl_within: function 37 -/
def impl_within.f (a0 : Int) (a1 : Int) (a2 : Int) : Option (Bool) := if a1 ≤ a0 then (some (decide (a0 ≤ a2))) else (some false)
set_option maxHeartbeats 8000000 in
set_option maxRecDepth 100000 in
theorem impl_within.calls (a0 : Int) (a1 : Int) (a2 : Int) (r : Bool) (w : World) (h : impl_within.f a0 a1 a2 = some r) :
  Calls Try.prog 37 #[.int .i64 a0, .int .i64 a1, .int .i64 a2] w fun e w' => e = .returned (.bool r) ∧ Drawn0 w w' := by
 have H : (if a1 ≤ a0 then (some (decide (a0 ≤ a2))) else (some false)) = some r := h
 clear h
 by_cases c4 : a1 ≤ a0
 ·rw [if_pos c4] at H
  have c4b0 : decide (a1 ≤ a0) = true := decide_eq_true c4
  clear c4
  obtain rfl := Option.some.inj H
  go_enter Try.func37, Try.ntmps37
  go_wp2
  go_ret
  exact ⟨by first | rfl | (simp; done) | (simp [*]; done), by repeat (first | exact Drawn0.refl _ | apply Drawn0.step)⟩
 ·rw [if_neg c4] at H
  have c4b0 : decide (a1 ≤ a0) = false := decide_eq_false c4
  clear c4
  obtain rfl := Option.some.inj H
  go_enter Try.func37, Try.ntmps37
  go_wp2
  go_ret
  exact ⟨by first | rfl | (simp; done) | (simp [*]; done), by repeat (first | exact Drawn0.refl _ | apply Drawn0.step)⟩

/-! ### impl_ValueOk: function 41 -/
def impl_ValueOk.f (a0_0 : Int) (a0_1 : Int) (a0_2 : ByteArray) : Option (Bool) := if a0_0 = 0 then (if a0_1 = 0 then (some (a0_2.toList == ([] : List UInt8))) else (some false)) else (if a0_0 = 1 then (some (a0_2.toList == ([] : List UInt8))) else (if a0_0 = 2 then ((impl_within.f a0_1 0 1).bind fun t176 => (if t176 = true then (some (a0_2.toList == ([] : List UInt8))) else (some false))) else (if a0_0 = 3 then (if a0_1 = 0 then (some (decide ((a0_2.size : Int) ≤ 100))) else (some false)) else (some false))))
set_option maxHeartbeats 8000000 in
set_option maxRecDepth 100000 in
theorem impl_ValueOk.calls (a0_0 : Int) (a0_1 : Int) (a0_2 : ByteArray) (r : Bool) (w : World) (h : impl_ValueOk.f a0_0 a0_1 a0_2 = some r) :
  Calls Try.prog 41 #[.agg #[.int .i64 a0_0, .int .i64 a0_1, .string a0_2]] w fun e w' => e = .returned (.bool r) ∧ Below w.heap.size w w' := by
 have hu42 := Try.underlying42
 have HB := Aside0.mk (Below.refl w.heap.size w)
 have H : (if a0_0 = 0 then (if a0_1 = 0 then (some (a0_2.toList == ([] : List UInt8))) else (some false)) else (if a0_0 = 1 then (some (a0_2.toList == ([] : List UInt8))) else (if a0_0 = 2 then ((impl_within.f a0_1 0 1).bind fun t176 => (if t176 = true then (some (a0_2.toList == ([] : List UInt8))) else (some false))) else (if a0_0 = 3 then (if a0_1 = 0 then (some (decide ((a0_2.size : Int) ≤ 100))) else (some false)) else (some false))))) = some r := h
 clear h
 by_cases c2 : a0_0 = 0
 ·rw [if_pos c2] at H
  have c2b0 : (a0_0 == 0) = true := beq_iff_eq.mpr c2
  have c2b1 : (a0_0 != 0) = false := bne_eq_false_iff_eq.mpr c2
  clear c2
  by_cases c3 : a0_1 = 0
  ·rw [if_pos c3] at H
   have c3b0 : (a0_1 == 0) = true := beq_iff_eq.mpr c3
   have c3b1 : (a0_1 != 0) = false := bne_eq_false_iff_eq.mpr c3
   clear c3
   obtain rfl := Option.some.inj H
   go_enter Try.func41, Try.ntmps41
   go_wp2_with (first | ((with_reducible refine gate_dst (N := 1) rfl ?_); (try (refine gate_guard (by rfl) ?_; dsimp only)); refine bx_ 1 #[.int .i64 a0_0, .int .i64 a0_1, .string a0_2] 42 ?_; intro gb175 hg w4 hbox hb; have BK175 := Aside0.mk (hbox); have GW175 := gw_ hg; have GE175 := gw_ hg; replace HB := bs_ hb; clear hb hbox hg; obtain ⟨hcz5_0, hcz5_1, hcz5_2, hfz5_0, hfz5_1, hfz5_2⟩ := b3_ BK175))
   go_ret
   exact ⟨er_, bb_⟩
  ·rw [if_neg c3] at H
   have c3b0 : (a0_1 == 0) = false := beq_eq_false_iff_ne.mpr c3
   have c3b1 : (a0_1 != 0) = true := bne_iff_ne.mpr c3
   obtain rfl := Option.some.inj H
   go_enter Try.func41, Try.ntmps41
   go_wp2_with (first | ((with_reducible refine gate_dst (N := 1) rfl ?_); (try (refine gate_guard (by rfl) ?_; dsimp only)); refine bx_ 1 #[.int .i64 a0_0, .int .i64 a0_1, .string a0_2] 42 ?_; intro gb175 hg w6 hbox hb; have BK175 := Aside0.mk (hbox); have GW175 := gw_ hg; have GE175 := gw_ hg; replace HB := bs_ hb; clear hb hbox hg; obtain ⟨hcz7_0, hcz7_1, hcz7_2, hfz7_0, hfz7_1, hfz7_2⟩ := b3_ BK175))
   go_ret
   exact ⟨er_, bb_⟩
 ·rw [if_neg c2] at H
  have c2b0 : (a0_0 == 0) = false := beq_eq_false_iff_ne.mpr c2
  have c2b1 : (a0_0 != 0) = true := bne_iff_ne.mpr c2
  by_cases c8 : a0_0 = 1
  ·rw [if_pos c8] at H
   have c8b0 : (a0_0 == 1) = true := beq_iff_eq.mpr c8
   have c8b1 : (a0_0 != 1) = false := bne_eq_false_iff_eq.mpr c8
   clear c8
   obtain rfl := Option.some.inj H
   go_enter Try.func41, Try.ntmps41
   go_wp2_with (first | ((with_reducible refine gate_dst (N := 1) rfl ?_); (try (refine gate_guard (by rfl) ?_; dsimp only)); refine bx_ 1 #[.int .i64 a0_0, .int .i64 a0_1, .string a0_2] 42 ?_; intro gb175 hg w9 hbox hb; have BK175 := Aside0.mk (hbox); have GW175 := gw_ hg; have GE175 := gw_ hg; replace HB := bs_ hb; clear hb hbox hg; obtain ⟨hcz10_0, hcz10_1, hcz10_2, hfz10_0, hfz10_1, hfz10_2⟩ := b3_ BK175))
   go_ret
   exact ⟨er_, bb_⟩
  ·rw [if_neg c8] at H
   have c8b0 : (a0_0 == 1) = false := beq_eq_false_iff_ne.mpr c8
   have c8b1 : (a0_0 != 1) = true := bne_iff_ne.mpr c8
   by_cases c11 : a0_0 = 2
   ·rw [if_pos c11] at H
    have c11b0 : (a0_0 == 2) = true := beq_iff_eq.mpr c11
    have c11b1 : (a0_0 != 2) = false := bne_eq_false_iff_eq.mpr c11
    clear c11
    replace H := Option.bind_eq_some_iff.mp H
    obtain ⟨t176, A120, H⟩ := H
    replace H : (if t176 = true then (some (a0_2.toList == ([] : List UInt8))) else (some false)) = some r := H
    have A12 := Aside0.mk A120
    clear A120
    by_cases c13 : t176 = true
    ·subst c13
     have H1 : (some (a0_2.toList == ([] : List UInt8))) = some r := by rw [if_pos rfl] at H; exact H
     clear H
     have H := H1
     clear H1
     obtain rfl := Option.some.inj H
     go_enter Try.func41, Try.ntmps41
     go_wp2_with (first | ((with_reducible refine gate_dst (N := 1) rfl ?_); (try (refine gate_guard (by rfl) ?_; dsimp only)); refine bx_ 1 #[.int .i64 a0_0, .int .i64 a0_1, .string a0_2] 42 ?_; intro gb175 hg w14 hbox hb; have BK175 := Aside0.mk (hbox); have GW175 := gw_ hg; have GE175 := gw_ hg; replace HB := bs_ hb; clear hb hbox hg; obtain ⟨hcz15_0, hcz15_1, hcz15_2, hfz15_0, hfz15_1, hfz15_2⟩ := b3_ BK175) | ((with_reducible refine gate_callee (f := 37) rfl ?_); refine gsL_ (some 24) Try.func37 #[.int .i64 a0_1, .int .i64 0, .int .i64 1] ?_; (with_reducible refine (impl_within.calls a0_1 0 1 true _ A12.out).mono ?_); rintro e w' ⟨rfl, ⟨nd, rfl⟩⟩; refine ⟨_, rfl, ?_⟩))
     go_ret
     exact ⟨er_, bb_⟩
    ·replace c13 := Bool.eq_false_iff.mpr c13
     subst c13
     have H1 : (some false) = some r := by rw [if_neg (show ¬ (false = true) by decide)] at H; exact H
     clear H
     have H := H1
     clear H1
     obtain rfl := Option.some.inj H
     go_enter Try.func41, Try.ntmps41
     go_wp2_with (first | ((with_reducible refine gate_dst (N := 1) rfl ?_); (try (refine gate_guard (by rfl) ?_; dsimp only)); refine bx_ 1 #[.int .i64 a0_0, .int .i64 a0_1, .string a0_2] 42 ?_; intro gb175 hg w16 hbox hb; have BK175 := Aside0.mk (hbox); have GW175 := gw_ hg; have GE175 := gw_ hg; replace HB := bs_ hb; clear hb hbox hg; obtain ⟨hcz17_0, hcz17_1, hcz17_2, hfz17_0, hfz17_1, hfz17_2⟩ := b3_ BK175) | ((with_reducible refine gate_callee (f := 37) rfl ?_); refine gsL_ (some 24) Try.func37 #[.int .i64 a0_1, .int .i64 0, .int .i64 1] ?_; (with_reducible refine (impl_within.calls a0_1 0 1 false _ A12.out).mono ?_); rintro e w' ⟨rfl, ⟨nd, rfl⟩⟩; refine ⟨_, rfl, ?_⟩))
     go_ret
     exact ⟨er_, bb_⟩
   ·rw [if_neg c11] at H
    have c11b0 : (a0_0 == 2) = false := beq_eq_false_iff_ne.mpr c11
    have c11b1 : (a0_0 != 2) = true := bne_iff_ne.mpr c11
    by_cases c18 : a0_0 = 3
    ·rw [if_pos c18] at H
     have c18b0 : (a0_0 == 3) = true := beq_iff_eq.mpr c18
     have c18b1 : (a0_0 != 3) = false := bne_eq_false_iff_eq.mpr c18
     clear c18
     by_cases c19 : a0_1 = 0
     ·rw [if_pos c19] at H
      have c19b0 : (a0_1 == 0) = true := beq_iff_eq.mpr c19
      have c19b1 : (a0_1 != 0) = false := bne_eq_false_iff_eq.mpr c19
      clear c19
      obtain rfl := Option.some.inj H
      go_enter Try.func41, Try.ntmps41
      go_wp2_with (first | ((with_reducible refine gate_dst (N := 1) rfl ?_); (try (refine gate_guard (by rfl) ?_; dsimp only)); refine bx_ 1 #[.int .i64 a0_0, .int .i64 a0_1, .string a0_2] 42 ?_; intro gb175 hg w20 hbox hb; have BK175 := Aside0.mk (hbox); have GW175 := gw_ hg; have GE175 := gw_ hg; replace HB := bs_ hb; clear hb hbox hg; obtain ⟨hcz21_0, hcz21_1, hcz21_2, hfz21_0, hfz21_1, hfz21_2⟩ := b3_ BK175))
      go_ret
      exact ⟨er_, bb_⟩
     ·rw [if_neg c19] at H
      have c19b0 : (a0_1 == 0) = false := beq_eq_false_iff_ne.mpr c19
      have c19b1 : (a0_1 != 0) = true := bne_iff_ne.mpr c19
      obtain rfl := Option.some.inj H
      go_enter Try.func41, Try.ntmps41
      go_wp2_with (first | ((with_reducible refine gate_dst (N := 1) rfl ?_); (try (refine gate_guard (by rfl) ?_; dsimp only)); refine bx_ 1 #[.int .i64 a0_0, .int .i64 a0_1, .string a0_2] 42 ?_; intro gb175 hg w22 hbox hb; have BK175 := Aside0.mk (hbox); have GW175 := gw_ hg; have GE175 := gw_ hg; replace HB := bs_ hb; clear hb hbox hg; obtain ⟨hcz23_0, hcz23_1, hcz23_2, hfz23_0, hfz23_1, hfz23_2⟩ := b3_ BK175))
      go_ret
      exact ⟨er_, bb_⟩
    ·rw [if_neg c18] at H
     have c18b0 : (a0_0 == 3) = false := beq_eq_false_iff_ne.mpr c18
     have c18b1 : (a0_0 != 3) = true := bne_iff_ne.mpr c18
     obtain rfl := Option.some.inj H
     go_enter Try.func41, Try.ntmps41
     go_wp2_with (first | ((with_reducible refine gate_dst (N := 1) rfl ?_); (try (refine gate_guard (by rfl) ?_; dsimp only)); refine bx_ 1 #[.int .i64 a0_0, .int .i64 a0_1, .string a0_2] 42 ?_; intro gb175 hg w24 hbox hb; have BK175 := Aside0.mk (hbox); have GW175 := gw_ hg; have GE175 := gw_ hg; replace HB := bs_ hb; clear hb hbox hg; obtain ⟨hcz25_0, hcz25_1, hcz25_2, hfz25_0, hfz25_1, hfz25_2⟩ := b3_ BK175))
     go_ret
     exact ⟨er_, bb_⟩

/-! ### slices.IndexFunc[[]loop.example/g00312/impl.Value,loop.example/g00312/impl.Value]: function 64 -/
set_option maxHeartbeats 4000000 in
set_option maxRecDepth 100000 in
theorem IndexFunc_T42.calls (f : S42 → Option Bool) (g : Nat) (lb : Array Value) (eg : ∀ args w, (callFunc g args).run Try.prog w = .ok (.enter g args) w) (A : Option Addr) (c : Nat) (xs : List S42) (r : Int) (w : World) (hr : Kd.C k42 w A xs.length xs) (hp : CB Try.prog k42 (fun cs => Value.agg cs.toArray) g lb f xs w) (h : idxO f xs 0 = some r) :
  Calls Try.prog 64 #[.slice A xs.length c, .func (.func g) #[] lb] w fun e w' => e = .returned (.int .i64 r) ∧ Below w.heap.size w w' := by
 have hbig : xs.length ≤ 9223372036854775807 := hr.2.1
 have HR := Aside0.mk hr
 have HP := Aside0.mk hp
 have HX := Aside0.mk h
 clear hr hp h
 go_enter Try.func64, Try.ntmps64
 go_wp2
 go_loopg [5, 8] xs.length (fun gg _ s8 wr => ∃ x : Int, s8 = .int .i64 x ∧ Aside0 (0 ≤ x ∧ x ≤ xs.length ∧ xs.length - x.toNat ≤ gg ∧ idxO f (xs.drop x.toNat) x = some r ∧ Below w.heap.size w wr))
 case atStart => exact ⟨0, rfl, ⟨by omega, by omega, by simp, by simpa using HX.out, Below.refl _ _⟩⟩
 case round =>
  obtain ⟨x, rfl, HI⟩ := hrel
  obtain ⟨x0, x1, hg, hi, BW⟩ := HI.out
  by_cases hlt : x < (xs.length : Int)
  ·have c4 : decide (x < (xs.length : Int)) = true := decide_eq_true hlt
   have c5 : decide (0 ≤ x) = true := decide_eq_true x0
   obtain ⟨ad, cs, rfl, hl, hK, hcell⟩ := Kd.C_get (Kd.C_below HR.out BW) (z42 : S42) x x0 hlt
   obtain ⟨b, hb, hm, ht, hf⟩ := idxO_step (z42 : S42) x0 hlt hi
   generalize xs.getD x.toNat (z42 : S42) = p at hK hb hm
   have hK0 := hK
   obtain rfl := k42_open hK
   have hcell1 : ∀ j u, ([(.int .i64 p.f0), (.int .i64 p.f1), (.string p.f2)] : List Value)[j]? = some u → wr.cell? (ad.add (x.toNat * 3 + j)) = some u := hcell
   have hc0 : wr.cell? (ad.add (x.toNat * 3)) = some (.int .i64 p.f0) := hcell1 0 _ rfl
   have hc1 : wr.cell? ⟨(ad.add (x.toNat * 3)).block, (ad.add (x.toNat * 3)).off + 1, none⟩ = some (.int .i64 p.f1) := by rw [← add_field _ _ 1 (by omega)]; exact hcell1 1 _ rfl
   have hc2 : wr.cell? ⟨(ad.add (x.toNat * 3)).block, (ad.add (x.toNat * 3)).off + 2, none⟩ = some (.string p.f2) := by rw [← add_field _ _ 2 (by omega)]; exact hcell1 2 _ rfl
   have hcall : Calls Try.prog g (#[(.agg #[(.int .i64 p.f0), (.int .i64 p.f1), (.string p.f2)])] ++ lb) wr (fun e w' => e = .returned (.bool b) ∧ Below wr.heap.size wr w') := HP.out wr _ _ b BW hm hK0 hb
   cases b with
   | true =>
    have HJ := Aside0.mk (And.intro (ht rfl) BW)
    clear hcell hcell1 hK hb hm ht hf hi BW HI hg hl hK0
    go_wp2_with (go_at_fn g; refine hcall.mono ?_; rintro e w' ⟨rfl, hb'⟩)
    go_ret
    exact ⟨ret_int_eq HJ.out.1.symm, HJ.out.2.trans (hb'.mono HJ.out.2.size)⟩
   | false =>
    have HJ := Aside0.mk (And.intro hg (And.intro (hf rfl) BW))
    clear hcell hcell1 hK hb hm ht hf hi BW HI hg hl hK0
    go_wp2_with (go_at_fn g; refine hcall.mono ?_; rintro e w' ⟨rfl, hb'⟩)
    go_roundg (xs.length - (x.toNat + 1))
    case measure => have := HJ.out.1; omega
    case rel => exact ⟨x + 1, by go_num, ⟨by omega, by omega, by omega, HJ.out.2.1, HJ.out.2.2.trans (hb'.mono HJ.out.2.2.size)⟩⟩
  ·have c4 : decide (x < (xs.length : Int)) = false := decide_eq_false hlt
   have hr : r = -1 := idxO_end hlt hi
   clear hi HI
   subst hr
   go_wp2
   go_ret
   exact ⟨rfl, BW⟩

end Go.Proofs.Ytnibegacjmnhoaa.PFnExactGetBag
