-- WRITTEN BY xprint.py, a program of this session over the kit's printer: by nobody's hand
-- PRESSED
import Derived.Test.YtapgfamppnhnmaaPress
import Derived.Test.YtapgfamppnhnmaaPFnExactChangeOkx0
import Derived.Test.YtapgfamppnhnmaaPFnExactChangeOkx6
import Derived.Test.YtapgfamppnhnmaaPFnExactChangeOkx7
namespace Go.Proofs.Ytapgfamppnhnmaa.PFnExactChangeOk
set_option maxRecDepth 100000
open Go.RowKit Go.Proofs.YtapgfamppnhnmaaW.PrintWords Go.Proofs.YtapgfamppnhnmaaW.PrintLast Go.Proofs.YtapgfamppnhnmaaW.PrintMore
attribute [local go_sem] max2_int min2_int max_two min_two max_three min_three max_four min_four   -- for this text's walks alone
set_option linter.unusedVariables false
set_option linter.unusedSimpArgs false

/-! ### spec_l02Copy: function 90 -/
def spec_l02Copy.l0 : Nat → Int → Int → List (S74) → Int → List (S74) → Option (Int × (List (S74)))
 | 0, _, _, _, _, _ => none
 | k + 1, x4, x151000, x151001, x153000, x153001 => if x4 < (x151001.length : Int) then (if 0 ≤ x4 then ((spec_l02CopyRow.f ((rd_T74 x151001 x4).f0)).bind fun t154 => (if x153001.length < 4398046511104 then (spec_l02Copy.l0 k (wrap64 (x4 + 1)) x151000 x151001 x153000 (x153001 ++ [(⟨t154, (rd_T74 x151001 x4).f1⟩ : S74)])) else (none))) else (none)) else (some (x153000, x153001))
def spec_l02Copy.f (k : Nat) (a0_0 : Int) (l0_1 : List (S74)) : Option (Int × (List (S74))) := spec_l02Copy.l0 k 0 a0_0 l0_1 a0_0 ([] : List (S74))
def spec_l02Copy.T5 : Bool × List (List Nat × List Nat) := (true, [([], []), ([0], [0]), ([], []), ([2], [2]), ([], []), ([3, 4], [3, 4]), ([5], [5]), ([6], [6]), ([7], [7]), ([], []), ([9], [9]), ([], []), ([10, 11], [10, 11]), ([12], [12]), ([13], [13]), ([8, 14], [8, 14]), ([15], [15]), ([1, 16, 8], [1, 16]), ([0, 1, 2, 3, 4, 5, 6, 7, 8, 9, 10, 11, 12, 13, 14, 15, 16, 17], []), ([18, 17, 17, 0, 1, 2, 3, 4, 5, 6, 7, 8, 9, 10, 11, 12, 13, 14, 15, 16, 17], [17, 18])])
def spec_l02Copy.B5 : List Nat := [0, 1, 0, 4, 0, 28, 60, 124, 252, 0, 512, 0, 3584, 7680, 15872, 32764, 65532, 131071, 262143, 524287]
theorem spec_l02Copy.tab5 : rtab .any (opsOf Try.f90 5) = spec_l02Copy.T5 := by kernel_rfl
theorem spec_l02Copy.bits5 : waitsOk spec_l02Copy.T5.2 spec_l02Copy.B5 = true := by kernel_rfl
set_option maxHeartbeats 8000000 in
theorem spec_l02Copy.calls (k : Nat) (a0_0 : Int) (A0_1 : Option Addr) (c0_1 : Nat) (l0_1 : List (S74)) (r1 : Int) (r2 : List (S74)) (w : World) (hr0_1 : Kd.C k74 w A0_1 l0_1.length l0_1) (hc0_1 : l0_1.length ≤ c0_1) (h : spec_l02Copy.f k a0_0 l0_1 = some (r1, r2)) :
  Calls Try.prog 90 #[.agg #[.int .i64 a0_0, .slice A0_1 l0_1.length c0_1]] w fun e w' => ∃ v1_ : Value, e = .returned (.agg #[.int .i64 r1, v1_]) ∧ Kd.S k74 74 w' w.heap.size (fun _ => True) v1_ r2 ∧ Below w.heap.size w w' := by
 have hu40 := Try.underlying40
 have hu74 := Try.underlying74
 have HR0_1 := Aside0.mk hr0_1
 have HC0_1 := Aside0.mk hc0_1
 clear hr0_1 hc0_1
 have HB := Aside0.mk (Below.refl w.heap.size w)
 have H : (spec_l02Copy.l0 k 0 a0_0 l0_1 a0_0 ([] : List (S74))) = some (r1, r2) := h
 clear h
 have H' := Aside0.mk H
 clear H
 go_enter Try.func90, Try.ntmps90
 go_wp2_with (first | ((with_reducible refine gate_dst (N := 1) rfl ?_); refine bx_ 1 #[.int .i64 a0_0, .slice A0_1 l0_1.length c0_1] 40 ?_; intro gb150 hg w2 hbox hb; have BK150 := Aside0.mk (hbox); have GW150 := gw_ hg; have GE150 := gw_ hg; replace HB := bs_ hb; clear hb hbox hg) | ((with_reducible refine gate_dst (N := 2) rfl ?_); refine bx_ 2 #[.int .i64 0, .slice none 0 0] 40 ?_; intro gb151 hg w3 hbox hb; have BK151 := Aside0.mk (hbox); have GW151 := gw_ hg; have GE151 := gw_ hg; have NB150_151 := nl_ hg BK150; have NB151_150 := ng_ hg BK150; replace BK150 := bkb_ BK150 hb; replace HB := bs_ hb; clear hb hbox hg; have hnb4 := NB150_151.out; have hnc4 := NB151_150.out; obtain ⟨hcz5_0, hcz5_1, hfz5_0, hfz5_1⟩ := b2_ BK150) | ((with_reducible refine gate_dst (N := 3) rfl ?_); refine bx_ 3 #[.int .i64 0, .slice none 0 0] 40 ?_; intro gb152 hg w6 hbox hb; have BK152 := Aside0.mk (hbox); have GW152 := gw_ hg; have GE152 := gw_ hg; have NB150_152 := nl_ hg BK150; have NB152_150 := ng_ hg BK150; have NB151_152 := nl_ hg BK151; have NB152_151 := ng_ hg BK151; replace BK150 := bkb_ BK150 hb; replace BK151 := bkb_ BK151 hb; replace HB := bs_ hb; clear hb hbox hg; have hnb7 := NB152_150.out; have hnc7 := NB150_152.out; have hnb8 := NB152_151.out; have hnc8 := NB151_152.out; obtain ⟨hcz9_0, hcz9_1, hfz9_0, hfz9_1⟩ := b2_ BK152))
 go_loopg [4] k (fun kq v4 w' => ∃ (x4_1 : Int) (x153001_1 : List (S74)) (u153001 : Value), v4 = .int .i64 x4_1 ∧ Aside0 (spec_l02Copy.l0 kq x4_1 a0_0 l0_1 a0_0 x153001_1 = some (r1, r2)) ∧ Aside0 (kq ≤ k) ∧ Aside0 (Kd.S k74 74 w' w.heap.size (fun _ => True) u153001 x153001_1) ∧ Aside0 (w'.heap[gb150]? = some (.cells #[.int .i64 a0_0, (.slice A0_1 l0_1.length c0_1)] 40 (0, 0))) ∧ Aside0 (w'.heap[gb151]? = some (.cells #[.int .i64 0, (.slice none 0 0)] 40 (0, 0))) ∧ Aside0 (w'.heap[gb152]? = some (.cells #[.int .i64 a0_0, u153001] 40 (0, 0))) ∧ Aside0 (Below w.heap.size w w'))
 case atStart => exact ⟨(0), (([] : List (S74))), (.slice none 0 0), rs_, H', ⟨Nat.le_refl _⟩, ⟨by first | exact Kd.S_nil _ _ _ _ _ | exact Kd.N_nil _ _ _ _ _ | exact Kd.V_nil _ _ _ _ _ | exact Kd.Q_nil _ _ _ _ _ | exact Kd.R_nil _ _ _ _ _⟩, ⟨(bf2_ NB150_152 (bkx_ BK150.out))⟩, ⟨(bf2_ NB151_152 (bkx_ BK151.out))⟩, ⟨(bp2_ (bkx_ BK152.out))⟩, ⟨bb_⟩⟩
 case round =>
  clear H'
  try clear p2
  try clear c4
  try clear c7
  try clear c8
  try clear c9
  try clear hcz5_0
  try clear hcz5_1
  try clear hcz9_0
  try clear hcz9_1
  try clear hfz5_0
  try clear hfz5_1
  try clear hfz9_0
  try clear hfz9_1
  obtain ⟨x4_1, x153001_1, u153001, rfl, HA, HK1, HO_153001, BK150, BK151, BK152, HB⟩ := hrel
  cases gk with
  | zero => exact absurd HA.out (by simp [spec_l02Copy.l0])
  | succ k1 =>
   have H := HA.out
   clear HA
   simp only [spec_l02Copy.l0] at H
   by_cases c10 : x4_1 < (l0_1.length : Int)
   ·rw [if_pos c10] at H
    have c10b0 : decide (x4_1 < (l0_1.length : Int)) = true := decide_eq_true c10
    clear c10
    by_cases c11 : 0 ≤ x4_1
    ·rw [if_pos c11] at H
     have c11b0 : decide (0 ≤ x4_1) = true := decide_eq_true c11
     clear c11
     replace H := Option.bind_eq_some_iff.mp H
     obtain ⟨t154, A120, H⟩ := H
     replace H : (if x153001_1.length < 4398046511104 then (spec_l02Copy.l0 k1 (wrap64 (x4_1 + 1)) a0_0 l0_1 a0_0 (x153001_1 ++ [(⟨t154, (rd_T74 l0_1 x4_1).f1⟩ : S74)])) else (none)) = some (r1, r2) := H
     have A12 := Aside0.mk A120
     clear A120
     by_cases c13 : x153001_1.length < 4398046511104
     ·rw [if_pos c13] at H
      have LMc13 := Aside0.mk c13
      clear c13
      obtain ⟨y158, hy158⟩ : ∃ y_ : List (S74), y_ = (x153001_1 ++ [(⟨t154, (rd_T74 l0_1 x4_1).f1⟩ : S74)]) := ⟨_, rfl⟩
      replace H : (spec_l02Copy.l0 k1 (wrap64 (x4_1 + 1)) a0_0 l0_1 a0_0 y158) = some (r1, r2) := by first | (rw [hy158]; with_reducible exact H) | (have H2_ := (Option.bind_some _ _).symm.trans H; rw [hy158]; with_reducible exact H2_) | (have H2_ := (Option.bind_some _ _).symm.trans H; with_reducible exact H2_) | with_reducible exact H | (rw [hy158]; exact H) | exact H
      have Ny158 := Aside0.mk hy158
      clear hy158
      have H' := Aside0.mk H
      clear H
      have hnb14 := NB150_151.out
      have hnc14 := NB151_150.out
      have hnb15 := NB150_152.out
      have hnc15 := NB152_150.out
      obtain ⟨hcz16_0, hcz16_1, hfz16_0, hfz16_1⟩ := b2_ BK150
      try go_wp2
      replace HO_153001 := Aside0.mk (Kd.S_drew HO_153001.out)
      replace BK150 := Aside0.mk (blk_drew BK150.out)
      replace BK151 := Aside0.mk (blk_drew BK151.out)
      replace BK152 := Aside0.mk (blk_drew BK152.out)
      replace HB := Aside0.mk (below_drew1 HB.out)
      have p153 : 0 ≤ (x4_1 : Int) := od_
      have q153 : x4_1 < (l0_1.length : Int) := od_
      obtain ⟨ad153, A153_0, c153_0, e153, hx153_0, hx153_1, hl153_0, hi153_0⟩ := at_T74 HR0_1.out x4_1 p153 q153
      have hw153_1 := hx153_1
      have hw153_0 := hx153_0
      cases e153
      replace hx153_0 := hb_ HB hx153_0
      replace hx153_1 := hb_ HB hx153_1
      have HR153_0 := Aside0.mk hi153_0
      have HC153_0 := Aside0.mk hl153_0
      clear hi153_0 hl153_0
      replace p153 := eq_true p153
      replace q153 := eq_true q153
      have p157 : 0 ≤ (x4_1 : Int) := od_
      have q157 : x4_1 < (l0_1.length : Int) := od_
      obtain ⟨ad157, A157_0, c157_0, e157, hx157_0, hx157_1, hl157_0, hi157_0⟩ := at_T74 HR0_1.out x4_1 p157 q157
      have hw157_1 := hx157_1
      have hw157_0 := hx157_0
      obtain rfl : ad153 = ad157 := (by injection e157)
      replace hx157_0 := hb_ HB hx157_0
      replace hx157_1 := hb_ HB hx157_1
      have HR157_0 := Aside0.mk hi157_0
      have HC157_0 := Aside0.mk hl157_0
      clear hi157_0 hl157_0
      replace p157 := eq_true p157
      replace q157 := eq_true q157
      have ea_ := Option.some.inj (hx153_0.symm.trans hx157_0)
      injection ea_ with ea_ en_ ec_
      subst ea_
      subst ec_
      clear en_
      refine start_ (n := 20) (S := fun w' => w'.cell? ⟨gb152, 0, none⟩ = some (.int .i64 a0_0) ∧ w'.cell? ⟨gb152, 1, none⟩ = some (u153001) ∧ w'.cell? ⟨gb150, 0, none⟩ = some (.int .i64 a0_0) ∧ w'.cell? ⟨gb150, 1, none⟩ = some (.slice (some ad153) l0_1.length c0_1) ∧ w'.cell? (ad153.add ((x4_1).toNat * 2)) = some (.slice A153_0 ((rd_T74 l0_1 x4_1).f0).length c153_0) ∧ w'.cell? ⟨(ad153.add ((x4_1).toNat * 2)).block, (ad153.add ((x4_1).toNat * 2)).off + 1, none⟩ = some (.int .i64 ((rd_T74 l0_1 x4_1).f1)) ∧ w'.cell? (ad153.add ((x4_1).toNat * 2)) = some (.slice A153_0 ((rd_T74 l0_1 x4_1).f0).length c153_0) ∧ w'.cell? ⟨(ad153.add ((x4_1).toNat * 2)).block, (ad153.add ((x4_1).toNat * 2)).off + 1, none⟩ = some (.int .i64 ((rd_T74 l0_1 x4_1).f1))) (ds := [19]) (tf 0 20) (by kernel_rfl) rfl rfl ⟨bc_ BK152 0, bc_ BK152 1, bc_ BK150 0, bc_ BK150 1, (hb_ HB hw153_0), (hb_ HB hw153_1), (hb_ HB hw157_0), (hb_ HB hw157_1)⟩ (fun hHeld => ?_); refine with_tabW spec_l02Copy.tab5 spec_l02Copy.bits5 (fun HT_ HW_ => ?_)
      generalize wr.drew = w17 at HO_153001 BK150 BK151 BK152 HB HR153_0 HR157_0 hx153_0 hx153_1 hx157_0 hx157_1 hHeld ⊢
      refine pl_ ?_
      refine plx_ 2 #[true, false, true, false, false, false, false, false, false, false, false, false, false, false, false, false, false, false, false, false] ?_
      refine plx_ 4 #[true, false, true, false, true, false, false, false, false, false, false, false, false, false, false, false, false, false, false, false] ?_
      refine plx_ 9 #[true, false, true, false, true, false, false, false, false, true, false, false, false, false, false, false, false, false, false, false] ?_
      refine plx_ 11 #[true, false, true, false, true, false, false, false, false, true, false, true, false, false, false, false, false, false, false, false] ?_
      refine tlx_ 1 #[true, true, true, false, true, false, false, false, false, true, false, true, false, false, false, false, false, false, false, false] ?_
      refine tlx_ 3 #[true, true, true, true, true, false, false, false, false, true, false, true, false, false, false, false, false, false, false, false] ?_
      refine plx_ 5 #[true, true, true, true, true, true, false, false, false, true, false, true, false, false, false, false, false, false, false, false] ?_
      refine plx_ 6 #[true, true, true, true, true, true, true, false, false, true, false, true, false, false, false, false, false, false, false, false] ?_
      refine tlx_ 7 #[true, true, true, true, true, true, true, true, false, true, false, true, false, false, false, false, false, false, false, false] ?_
      refine tlx_ 10 #[true, true, true, true, true, true, true, true, false, true, true, true, false, false, false, false, false, false, false, false] ?_
      refine plx_ 12 #[true, true, true, true, true, true, true, true, false, true, true, true, true, false, false, false, false, false, false, false] ?_
      refine plx_ 13 #[true, true, true, true, true, true, true, true, false, true, true, true, true, true, false, false, false, false, false, false] ?_
      refine tlx_ 14 #[true, true, true, true, true, true, true, true, false, true, true, true, true, true, true, false, false, false, false, false] ?_
      refine one_ (i := 8) (N := some 23) (tf 15 5) rfl rfl (one_of HT_.out (by kernel_rfl)) (by decide) (fun K hK => ?_)
      refine gs_ Try.func76 #[.slice A153_0 ((rd_T74 l0_1 x4_1).f0).length c153_0] ?_
      with_reducible refine (spec_l02CopyRow.calls _ _ ((rd_T74 l0_1 x4_1).f0) t154 _ ?side1 ?side2 A12.out).mono ?_
      (case side1 => exact ck_ (Kd.C_below HR153_0.out HB.out))
      (case side2 => exact HC153_0.out)
      rintro e w18 ⟨v155, rfl, ho0, hb⟩
      refine ⟨_, rfl, ?_⟩
      have HO156 := Aside0.mk (Kd.R_lower ho0 (below_size bb_))
      replace HO_153001 := Aside0.mk (Kd.S_elder' (sk_ HO_153001.out) (Kd.R_base ho0) hb)
      replace BK150 := bkb_ BK150 hb
      replace BK151 := bkb_ BK151 hb
      replace BK152 := bkb_ BK152 hb
      replace HB := bs_ hb
      (try clear hb)
      (try clear hb2)
      (try clear hk)
      (try clear hi)
      (try clear ho0)
      obtain ⟨Ao19, co19, eo19⟩ := Kd.R_slice HO156.out
      (first | subst eo19 | (injection eo19 with f1_ f2_ f3_; have f4_ := f1_.symm; have f5_ := f3_.symm; clear f1_ f2_ f3_; subst f4_; subst f5_))
      refine hK.out _ _ ⟨bc_ BK152 0, bc_ BK152 1, bc_ BK150 0, bc_ BK150 1, (have h_ := hb_ HB hw153_0; h_), (have h_ := hb_ HB hw153_1; h_), (have h_ := hb_ HB hw157_0; h_), (have h_ := hb_ HB hw157_1; h_)⟩ (fun hHeld => ?_)
      clear hK K
      refine nm_ ?_
      refine plx_ 15 (tf 16 4) ?_
      refine one_ (i := 16) (N := some 31) (tf 17 3) rfl rfl (one_of HT_.out (by kernel_rfl)) (by decide) (fun K hK => ?_)
      refine value_ (w1 := ?_) (v := ?_) (by rfl) rfl ?_ ?_
      rotate_left 2
      ·go_simp
       constructor
       ·rfl
       ·rfl
      refine hK.out _ _ ⟨(blk_cell (blk_alloc BK152.out _) 0).trans rfl, (blk_cell (blk_alloc BK152.out _) 1).trans rfl, (blk_cell (blk_alloc BK150.out _) 0).trans rfl, (blk_cell (blk_alloc BK150.out _) 1).trans rfl, (World.cell?_alloc_lt _ _ _ (World.block_lt_of_cell? _ _ ((have h_ := hb_ HB hw153_0; h_)))).trans ((have h_ := hb_ HB hw153_0; h_)), (World.cell?_alloc_lt _ _ _ (World.block_lt_of_cell? _ _ ((have h_ := hb_ HB hw153_1; h_)))).trans ((have h_ := hb_ HB hw153_1; h_)), (World.cell?_alloc_lt _ _ _ (World.block_lt_of_cell? _ _ ((have h_ := hb_ HB hw157_0; h_)))).trans ((have h_ := hb_ HB hw157_0; h_)), (World.cell?_alloc_lt _ _ _ (World.block_lt_of_cell? _ _ ((have h_ := hb_ HB hw157_1; h_)))).trans ((have h_ := hb_ HB hw157_1; h_))⟩ (fun hHeld => ?_)
      clear hK K
      refine nm_ ?_
      refine one_ (i := 17) (N := some 32) (tf 18 2) rfl rfl (one_of HT_.out (by kernel_rfl)) (by decide) (fun K hK => ?_)
      refine Kd.S_append_step k74 (w0 := w) w.heap.size (by rfl) (.tmp 16) (.tmp 31) 38 74 (.agg #[(.slice none 0 0), (.int .i64 0)]) 32 rfl Try.underlying38 info74 rfl (by decide) (by omega) u153001 x153001_1 (⟨t154, (rd_T74 l0_1 x4_1).f1⟩ : S74) [.slice Ao19 t154.length co19, .int .i64 ((rd_T74 l0_1 x4_1).f1)] (fun _ => True) (fun k_ => some k_ = (.slice Ao19 t154.length co19 : Value).ownBlock) rfl rfl ?aP (fun k_ hk_ => ((Kd.R_mono (ok' := fun k_ => ((fun _ => True)) k_ ∧ some k_ ≠ (u153001 : Value).ownBlock) (Kd.R_apart' (HO156.out) (Kd.S_typed HO_153001.out) (by decide)) (fun k_ hk => ⟨trivial, hk.2⟩))).1 k_ hk_.symm) ?aF ?aO ?aB ?aS ?aL ?_
      (case aP => exact k74_mkM _ _ _ (⟨t154, (rd_T74 l0_1 x4_1).f1⟩ : S74) (Kd.R_mono (Kd.R_tight rfl (Kd.R_mono (ok' := fun k_ => ((fun _ => True)) k_ ∧ some k_ ≠ (u153001 : Value).ownBlock) (Kd.R_apart' (HO156.out) (Kd.S_typed HO_153001.out) (by decide)) (fun k_ hk => ⟨trivial, hk.2⟩))) (fun _ h_ => h_)))
      (case aB => exact bb_)
      (case aF => exact (fun _ _ => trivial))
      (case aO => exact (sk_ (Kd.S_mono HO_153001.out (fun k_ hk => ⟨trivial, fun e_ => hk.2 e_⟩))))
      (case aS => exact (below_size bb_))
      (case aL => have := LMc13.out; omega)
      intro v159 w20 ho hb hg hat
      rw [← Ny158.out] at ho
      have HO160 := Aside0.mk (ho)
      replace BK150 := Aside0.mk (blk_grown (g := gb150) (o := .cells #[.int .i64 a0_0, .slice (some ad153) l0_1.length c0_1] 40 (0, 0)) (bkx_ BK150.out) hg (Kd.S_ne HO_153001.out BK150.out (by decide)))
      replace BK151 := Aside0.mk (blk_grown (g := gb151) (o := .cells #[.int .i64 0, .slice none 0 0] 40 (0, 0)) (bkx_ BK151.out) hg (Kd.S_ne HO_153001.out BK151.out (by decide)))
      replace BK152 := Aside0.mk (blk_grown (g := gb152) (o := .cells #[.int .i64 a0_0, u153001] 40 (0, 0)) (bkx_ BK152.out) hg (Kd.S_ne HO_153001.out BK152.out (by decide)))
      replace HB := Aside0.mk (hb)
      clear HO_153001 HO156
      clear ho hb hg hat
      obtain ⟨Ao21, co21, eo21⟩ := Kd.S_slice HO160.out
      (first | subst eo21 | (injection eo21 with f1_ f2_ f3_; have f4_ := f1_.symm; have f5_ := f3_.symm; clear f1_ f2_ f3_; subst f4_; subst f5_))
      refine hK.out _ _ ⟨bc_ BK152 0, bc_ BK152 1, bc_ BK150 0, bc_ BK150 1, (have h_ := hb_ HB hw153_0; h_), (have h_ := hb_ HB hw153_1; h_), (have h_ := hb_ HB hw157_0; h_), (have h_ := hb_ HB hw157_1; h_)⟩ (fun hHeld => ?_)
      clear hK K
      refine nm_ ?_
      refine plx_ 18 (tf 19 1) ?_
      refine last_ (i := 19) (N := none) (tf 20 0) rfl rfl (one_of HT_.out (by kernel_rfl)) (by decide) (fun K hK => ?_)
      have hs22 : w20.cell? ⟨gb152, 1, none⟩ = some (u153001) := bc_ BK152 1
      have hfs22 := blk_frozen BK152.out 1
      have hns22_0 := NB150_152.out
      have hns22_1 := NB151_152.out
      have hms22_0 := NB152_150.out
      have hms22_1 := NB152_151.out
      refine skip_ (w1 := ?_) (by rfl) rfl ?_ ?_
      rotate_left
      ·go_simp
       rfl
      refine hK.out _ _ ?_
      clear hK K
      refine done_ (done_of HT_.out (by kernel_rfl)) ?_
      try go_wp2
      go_roundg k1
      case measure => have := HK1.out; omega
      case rel => exact ⟨(wrap64 (x4_1 + 1)), (y158), (.slice Ao21 y158.length co21), rs_, H', ⟨by have := HK1.out; omega⟩, ⟨by (with_reducible repeat (first | apply Kd.S_alloc | apply Kd.S_drewN | apply Kd.S_drew)); exact Kd.S_mono (Kd.S_far (p := ⟨gb152, 1, none⟩) (Kd.S_types HO160.out BK152.out (by decide)) (fun _ hk => hk.2) (.slice Ao21 y158.length co21)) (fun _ hk => trivial)⟩, ⟨(bf1_ NB150_152 (bkx_ BK150.out))⟩, ⟨(bf1_ NB151_152 (bkx_ BK151.out))⟩, ⟨by (with_reducible repeat (first | refine blk_drewN ?_ _ | refine blk_drew ?_ | refine blk_alloc ?_ _)); refine blk_put (cs := #[.int .i64 a0_0, u153001]) ?_ 1 _ rfl; (with_reducible repeat (first | refine blk_drewN ?_ _ | refine blk_drew ?_ | refine blk_alloc ?_ _)); exact BK152.out⟩, ⟨bb_⟩⟩
     ·rw [if_neg c13] at H
      exact absurd H (by simp)
    ·rw [if_neg c11] at H
     exact absurd H (by simp)
   ·rw [if_neg c10] at H
    have c10b0 : decide (x4_1 < (l0_1.length : Int)) = false := decide_eq_false c10
    clear c10
    simp only [Option.some.injEq, Prod.mk.injEq] at H
    obtain ⟨rfl, rfl⟩ := H
    have hnb23 := NB150_151.out
    have hnc23 := NB151_150.out
    have hnb24 := NB150_152.out
    have hnc24 := NB152_150.out
    obtain ⟨hcz25_0, hcz25_1, hfz25_0, hfz25_1⟩ := b2_ BK150
    have hnb26 := NB152_151.out
    have hnc26 := NB151_152.out
    obtain ⟨hcz27_0, hcz27_1, hfz27_0, hfz27_1⟩ := b2_ BK152
    obtain ⟨hcz28_0, hcz28_1, hfz28_0, hfz28_1⟩ := b2_ BK151
    obtain ⟨Ao29, co29, eo29⟩ := Kd.S_slice HO_153001.out
    subst eo29
    go_wp2
    refine bodyPost_ret (results_cell_row rfl _ _ gb151 40 #[.int .i64 a0_0, .slice Ao29 x153001_1.length co29] (0, 0) _ rfl (bp2_ (bkx_ BK151.out)) Try.underlying40 rfl (by kernel_rfl)) rfl ?_
    exact ⟨_, by first | rfl | (simp [errW_none, errW_some] <;> rfl) | (simp [*, errW_none, errW_some] <;> rfl), by (with_reducible repeat (first | apply Kd.S_alloc | apply Kd.S_drewN | apply Kd.S_drew)); exact Kd.S_mono (Kd.S_far (p := ⟨gb151, 1, none⟩) (Kd.S_far (p := ⟨gb151, 0, none⟩) (Kd.S_types HO_153001.out BK151.out (by decide)) (fun _ hk => hk.2) (.int .i64 a0_0)) (fun _ hk => hk.2) (.slice Ao29 x153001_1.length co29)) (fun _ hk => trivial), by repeat (first | (with_reducible first | exact HB.out | apply below_alloc | apply pw_below_drewN | apply below_drew1 | refine below_set ?_ GE150.out | refine below_set ?_ GE151.out | refine below_set ?_ GE152.out) | exact HB.out)⟩

/-! ### spec_l02Sum: function 58 -/
def spec_l02Sum.l0 : Nat → Int → Int → Int → List (S74) → Int → List (S74) → Option (Int × (List (S74)))
 | 0, _, _, _, _, _, _ => none
 | k + 1, x2, x8, x163000, x163001, x169000, x169001 => if x8 < (x163001.length : Int) then (if 0 ≤ x8 then ((spec_l02Put.f k x169000 x169001 ((rd_T74 x163001 x8).f0) (wrap64 (x2 * ((rd_T74 x163001 x8).f1)))).bind fun bt171 => (spec_l02Sum.l0 k x2 (wrap64 (x8 + 1)) x163000 x163001 bt171.1 bt171.2)) else (none)) else (some (x169000, x169001))
def spec_l02Sum.f (k : Nat) (a0_0 : Int) (l0_1 : List (S74)) (a1_0 : Int) (l1_1 : List (S74)) (a2 : Int) : Option (Int × (List (S74))) := (spec_l02Copy.f k a0_0 l0_1).bind fun bt164 => (spec_l02Sum.l0 k a2 0 a1_0 l1_1 bt164.1 bt164.2)
def spec_l02Sum.T5 : Bool × List (List Nat × List Nat) := (true, [([], []), ([], []), ([1], [1]), ([], []), ([2, 3], [2, 3]), ([4], [4]), ([5], [5]), ([], []), ([], []), ([8], [8]), ([], []), ([9, 10], [9, 10]), ([11], [11]), ([12], [12]), ([7, 13], [7, 13]), ([0, 6, 14], [0, 6, 14]), ([15, 15, 0, 1, 2, 3, 4, 5, 6, 7, 8, 9, 10, 11, 12, 13, 14, 15], [15])])
def spec_l02Sum.B5 : List Nat := [0, 0, 2, 0, 14, 30, 62, 0, 0, 256, 0, 1792, 3840, 7936, 16256, 32767, 65535]
theorem spec_l02Sum.tab5 : rtab .any (opsOf Try.f58 5) = spec_l02Sum.T5 := by kernel_rfl
theorem spec_l02Sum.bits5 : waitsOk spec_l02Sum.T5.2 spec_l02Sum.B5 = true := by kernel_rfl
set_option maxHeartbeats 8000000 in
theorem spec_l02Sum.calls (k : Nat) (a0_0 : Int) (A0_1 : Option Addr) (c0_1 : Nat) (l0_1 : List (S74)) (a1_0 : Int) (A1_1 : Option Addr) (c1_1 : Nat) (l1_1 : List (S74)) (a2 : Int) (r1 : Int) (r2 : List (S74)) (w : World) (hr0_1 : Kd.C k74 w A0_1 l0_1.length l0_1) (hc0_1 : l0_1.length ≤ c0_1) (hr1_1 : Kd.C k74 w A1_1 l1_1.length l1_1) (hc1_1 : l1_1.length ≤ c1_1) (h : spec_l02Sum.f k a0_0 l0_1 a1_0 l1_1 a2 = some (r1, r2)) :
  Calls Try.prog 58 #[.agg #[.int .i64 a0_0, .slice A0_1 l0_1.length c0_1], .agg #[.int .i64 a1_0, .slice A1_1 l1_1.length c1_1], .int .i64 a2] w fun e w' => ∃ v1_ : Value, e = .returned (.agg #[.int .i64 r1, v1_]) ∧ Kd.N k74 74 w' w.heap.size (fun k_ => (w.heap.size ≤ k_)) v1_ r2 ∧ Below w.heap.size w w' := by
 have hu40 := Try.underlying40
 have HR0_1 := Aside0.mk hr0_1
 have HC0_1 := Aside0.mk hc0_1
 clear hr0_1 hc0_1
 have HR1_1 := Aside0.mk hr1_1
 have HC1_1 := Aside0.mk hc1_1
 clear hr1_1 hc1_1
 have HB := Aside0.mk (Below.refl w.heap.size w)
 have H : ((spec_l02Copy.f k a0_0 l0_1).bind fun bt164 => (spec_l02Sum.l0 k a2 0 a1_0 l1_1 bt164.1 bt164.2)) = some (r1, r2) := h
 clear h
 replace H := Option.bind_eq_some_iff.mp H
 obtain ⟨⟨t164, t165⟩, A40, H⟩ := H
 replace H : (spec_l02Sum.l0 k a2 0 a1_0 l1_1 t164 t165) = some (r1, r2) := H
 have A4 := Aside0.mk A40
 clear A40
 have H' := Aside0.mk H
 clear H
 go_enter Try.func58, Try.ntmps58
 go_wp2_with (first | ((with_reducible refine gate_dst (N := 3) rfl ?_); refine bx_ 3 #[.int .i64 a0_0, .slice A0_1 l0_1.length c0_1] 40 ?_; intro gb161 hg w5 hbox hb; have BK161 := Aside0.mk (hbox); have GW161 := gw_ hg; have GE161 := gw_ hg; replace HB := bs_ hb; clear hb hbox hg) | ((with_reducible refine gate_dst (N := 4) rfl ?_); refine bx_ 4 #[.int .i64 a1_0, .slice A1_1 l1_1.length c1_1] 40 ?_; intro gb162 hg w6 hbox hb; have BK162 := Aside0.mk (hbox); have GW162 := gw_ hg; have GE162 := gw_ hg; have NB161_162 := nl_ hg BK161; have NB162_161 := ng_ hg BK161; replace BK161 := bkb_ BK161 hb; replace HB := bs_ hb; clear hb hbox hg) | ((with_reducible refine gate_dst (N := 6) rfl ?_); refine bx_ 6 #[.int .i64 0, .slice none 0 0] 40 ?_; intro gb163 hg w7 hbox hb; have BK163 := Aside0.mk (hbox); have GW163 := gw_ hg; have GE163 := gw_ hg; have NB161_163 := nl_ hg BK161; have NB163_161 := ng_ hg BK161; have NB162_163 := nl_ hg BK162; have NB163_162 := ng_ hg BK162; replace BK161 := bkb_ BK161 hb; replace BK162 := bkb_ BK162 hb; replace HB := bs_ hb; clear hb hbox hg; have hnb8 := NB161_162.out; have hnc8 := NB162_161.out; have hnb9 := NB161_163.out; have hnc9 := NB163_161.out; obtain ⟨hcz10_0, hcz10_1, hfz10_0, hfz10_1⟩ := b2_ BK161) | ((with_reducible refine gate_callee (f := 90) rfl ?_); refine gsL_ (some 10) Try.func90 #[.agg #[.int .i64 a0_0, .slice A0_1 l0_1.length c0_1]] ?_; (with_reducible refine (spec_l02Copy.calls k a0_0 _ _ l0_1 t164 t165 _ ?side1 ?side2 A4.out).mono ?_); (case side1 => exact ck_ (Kd.C_below HR0_1.out HB.out)); (case side2 => exact HC0_1.out); rintro e w11 ⟨v166, rfl, ho0, hb⟩; refine ⟨_, rfl, ?_⟩; have HO167 := Aside0.mk (Kd.N_lower (Kd.N_mono (ok' := fun k_ => (w.heap.size ≤ k_) ∧ k_ ≠ gb161 ∧ k_ ≠ gb162 ∧ k_ ≠ gb163) (Kd.S_N (Kd.S_bound ho0)) (fun k_ hk_ => ⟨(Nat.le_trans (below_size bb_) hk_.2.1), (Kd.freshB (g := gb161) (o := .cells #[.int .i64 a0_0, .slice A0_1 l0_1.length c0_1] 40 (0, 0)) (bkx_ BK161.out) k_ hk_.2.1), (Kd.freshB (g := gb162) (o := .cells #[.int .i64 a1_0, .slice A1_1 l1_1.length c1_1] 40 (0, 0)) (bkx_ BK162.out) k_ hk_.2.1), (Kd.freshB (g := gb163) (o := .cells #[.int .i64 0, .slice none 0 0] 40 (0, 0)) (bkx_ BK163.out) k_ hk_.2.1)⟩)) (below_size bb_)); replace BK161 := bkb_ BK161 hb; replace BK162 := bkb_ BK162 hb; replace BK163 := bkb_ BK163 hb; replace HB := bs_ hb; (try clear hb); (try clear hb2); (try clear hk); (try clear hi); (try clear ho0)) | ((with_reducible refine gate_dst (N := 7) rfl ?_); refine bx_ 7 #[.int .i64 0, .slice none 0 0] 40 ?_; intro gb168 hg w12 hbox hb; have BK168 := Aside0.mk (hbox); have GW168 := gw_ hg; have GE168 := gw_ hg; have NB161_168 := nl_ hg BK161; have NB168_161 := ng_ hg BK161; have NB162_168 := nl_ hg BK162; have NB168_162 := ng_ hg BK162; have NB163_168 := nl_ hg BK163; have NB168_163 := ng_ hg BK163; replace HO167 := Aside0.mk (Kd.N_below (Kd.N_elderB (by (with_reducible repeat (first | apply Kd.N_alloc | apply Kd.N_drewN | apply Kd.N_drew)); exact HO167.out) gb168 (Nat.le_of_eq hg.symm)) hb); replace BK161 := bkb_ BK161 hb; replace BK162 := bkb_ BK162 hb; replace BK163 := bkb_ BK163 hb; replace HB := bs_ hb; clear hb hbox hg; have hnb13 := NB168_161.out; have hnc13 := NB161_168.out; have hnb14 := NB168_162.out; have hnc14 := NB162_168.out; have hnb15 := NB168_163.out; have hnc15 := NB163_168.out; obtain ⟨hcz16_0, hcz16_1, hfz16_0, hfz16_1⟩ := b2_ BK168; obtain ⟨Ao17, co17, eo17⟩ := Kd.N_slice HO167.out; subst eo17))
 go_loopg [8] k (fun kq v8 w' => ∃ (x8_1 : Int) (x169000_1 : Int) (x169001_1 : List (S74)) (u169001 : Value), v8 = .int .i64 x8_1 ∧ Aside0 (spec_l02Sum.l0 kq a2 x8_1 a1_0 l1_1 x169000_1 x169001_1 = some (r1, r2)) ∧ Aside0 (kq ≤ k) ∧ Aside0 (Kd.N k74 74 w' w.heap.size (fun k_ => (w.heap.size ≤ k_) ∧ k_ ≠ gb161 ∧ k_ ≠ gb162 ∧ k_ ≠ gb163 ∧ k_ ≠ gb168) u169001 x169001_1) ∧ Aside0 (w'.heap[gb161]? = some (.cells #[.int .i64 a0_0, (.slice A0_1 l0_1.length c0_1)] 40 (0, 0))) ∧ Aside0 (w'.heap[gb162]? = some (.cells #[.int .i64 a1_0, (.slice A1_1 l1_1.length c1_1)] 40 (0, 0))) ∧ Aside0 (w'.heap[gb163]? = some (.cells #[.int .i64 0, (.slice none 0 0)] 40 (0, 0))) ∧ Aside0 (w'.heap[gb168]? = some (.cells #[.int .i64 x169000_1, u169001] 40 (0, 0))) ∧ Aside0 (Below w.heap.size w w'))
 case atStart => exact ⟨(0), (t164), (t165), (.slice Ao17 t165.length co17), rs_, H', ⟨Nat.le_refl _⟩, ⟨by (with_reducible repeat (first | apply Kd.N_alloc | apply Kd.N_drewN | apply Kd.N_drew)); exact Kd.N_mono (Kd.N_far (p := ⟨gb168, 1, none⟩) (Kd.N_far (p := ⟨gb168, 0, none⟩) (Kd.N_mono HO167.out (fun k_ hk => (⟨hk, hk.2⟩ : _ ∧ k_ ≠ gb168))) (fun _ hk => hk.2) (.int .i64 t164)) (fun _ hk => hk.2) (.slice Ao17 t165.length co17)) (fun _ hk => ⟨hk.1.1.1, ⟨hk.1.1.2.1, ⟨hk.1.1.2.2.1, ⟨hk.1.1.2.2.2, hk.1.2⟩⟩⟩⟩)⟩, ⟨(bf2_ NB161_168 (bkx_ BK161.out))⟩, ⟨(bf2_ NB162_168 (bkx_ BK162.out))⟩, ⟨(bf2_ NB163_168 (bkx_ BK163.out))⟩, ⟨(bp2_ (bkx_ BK168.out))⟩, ⟨bb_⟩⟩
 case round =>
  clear H'
  try clear c1
  try clear p2
  try clear c5
  try clear c8
  try clear c9
  try clear c13
  try clear c14
  try clear c15
  try clear hcz10_0
  try clear hcz10_1
  try clear hcz16_0
  try clear hcz16_1
  try clear hfz10_0
  try clear hfz10_1
  try clear hfz16_0
  try clear hfz16_1
  obtain ⟨x8_1, x169000_1, x169001_1, u169001, rfl, HA, HK1, HO_169001, BK161, BK162, BK163, BK168, HB⟩ := hrel
  cases gk with
  | zero => exact absurd HA.out (by simp [spec_l02Sum.l0])
  | succ k1 =>
   have H := HA.out
   clear HA
   simp only [spec_l02Sum.l0] at H
   by_cases c18 : x8_1 < (l1_1.length : Int)
   ·rw [if_pos c18] at H
    have c18b0 : decide (x8_1 < (l1_1.length : Int)) = true := decide_eq_true c18
    clear c18
    by_cases c19 : 0 ≤ x8_1
    ·rw [if_pos c19] at H
     have c19b0 : decide (0 ≤ x8_1) = true := decide_eq_true c19
     clear c19
     replace H := Option.bind_eq_some_iff.mp H
     obtain ⟨⟨t171, t172⟩, A200, H⟩ := H
     replace H : (spec_l02Sum.l0 k1 a2 (wrap64 (x8_1 + 1)) a1_0 l1_1 t171 t172) = some (r1, r2) := H
     have A20 := Aside0.mk A200
     clear A200
     have H' := Aside0.mk H
     clear H
     have hnb21 := NB162_161.out
     have hnc21 := NB161_162.out
     have hnb22 := NB162_163.out
     have hnc22 := NB163_162.out
     have hnb23 := NB162_168.out
     have hnc23 := NB168_162.out
     obtain ⟨hcz24_0, hcz24_1, hfz24_0, hfz24_1⟩ := b2_ BK162
     try go_wp2
     replace HO_169001 := Aside0.mk (Kd.N_drew HO_169001.out)
     replace BK161 := Aside0.mk (blk_drew BK161.out)
     replace BK162 := Aside0.mk (blk_drew BK162.out)
     replace BK163 := Aside0.mk (blk_drew BK163.out)
     replace BK168 := Aside0.mk (blk_drew BK168.out)
     replace HB := Aside0.mk (below_drew1 HB.out)
     have p169 : 0 ≤ (x8_1 : Int) := od_
     have q169 : x8_1 < (l1_1.length : Int) := od_
     obtain ⟨ad169, A169_0, c169_0, e169, hx169_0, hx169_1, hl169_0, hi169_0⟩ := at_T74 HR1_1.out x8_1 p169 q169
     have hw169_1 := hx169_1
     have hw169_0 := hx169_0
     cases e169
     replace hx169_0 := hb_ HB hx169_0
     replace hx169_1 := hb_ HB hx169_1
     have HR169_0 := Aside0.mk hi169_0
     have HC169_0 := Aside0.mk hl169_0
     clear hi169_0 hl169_0
     replace p169 := eq_true p169
     replace q169 := eq_true q169
     have p170 : 0 ≤ (x8_1 : Int) := od_
     have q170 : x8_1 < (l1_1.length : Int) := od_
     obtain ⟨ad170, A170_0, c170_0, e170, hx170_0, hx170_1, hl170_0, hi170_0⟩ := at_T74 HR1_1.out x8_1 p170 q170
     have hw170_1 := hx170_1
     have hw170_0 := hx170_0
     obtain rfl : ad169 = ad170 := (by injection e170)
     replace hx170_0 := hb_ HB hx170_0
     replace hx170_1 := hb_ HB hx170_1
     have HR170_0 := Aside0.mk hi170_0
     have HC170_0 := Aside0.mk hl170_0
     clear hi170_0 hl170_0
     replace p170 := eq_true p170
     replace q170 := eq_true q170
     have ea_ := Option.some.inj (hx169_0.symm.trans hx170_0)
     injection ea_ with ea_ en_ ec_
     subst ea_
     subst ec_
     clear en_
     obtain ⟨Ao26, co26, eo26⟩ := Kd.N_slice HO_169001.out
     (first | subst eo26 | (injection eo26 with f1_ f2_ f3_; have f4_ := f1_.symm; have f5_ := f3_.symm; clear f1_ f2_ f3_; subst f4_; subst f5_))
     refine start_ (n := 17) (S := fun w' => w'.cell? ⟨gb168, 0, none⟩ = some (.int .i64 x169000_1) ∧ w'.cell? ⟨gb168, 1, none⟩ = some (.slice Ao26 x169001_1.length co26) ∧ w'.cell? ⟨gb162, 0, none⟩ = some (.int .i64 a1_0) ∧ w'.cell? ⟨gb162, 1, none⟩ = some (.slice (some ad169) l1_1.length c1_1) ∧ w'.cell? (ad169.add ((x8_1).toNat * 2)) = some (.slice A169_0 ((rd_T74 l1_1 x8_1).f0).length c169_0) ∧ w'.cell? ⟨(ad169.add ((x8_1).toNat * 2)).block, (ad169.add ((x8_1).toNat * 2)).off + 1, none⟩ = some (.int .i64 ((rd_T74 l1_1 x8_1).f1)) ∧ w'.cell? (ad169.add ((x8_1).toNat * 2)) = some (.slice A169_0 ((rd_T74 l1_1 x8_1).f0).length c169_0) ∧ w'.cell? ⟨(ad169.add ((x8_1).toNat * 2)).block, (ad169.add ((x8_1).toNat * 2)).off + 1, none⟩ = some (.int .i64 ((rd_T74 l1_1 x8_1).f1))) (ds := [16]) (tf 0 17) (by kernel_rfl) rfl rfl ⟨bc_ BK168 0, bc_ BK168 1, bc_ BK162 0, bc_ BK162 1, (hb_ HB hw169_0), (hb_ HB hw169_1), (hb_ HB hw170_0), (hb_ HB hw170_1)⟩ (fun hHeld => ?_); refine with_tabW spec_l02Sum.tab5 spec_l02Sum.bits5 (fun HT_ HW_ => ?_)
     generalize wr.drew = w25 at HO_169001 BK161 BK162 BK163 BK168 HB HR169_0 HR170_0 hx169_0 hx169_1 hx170_0 hx170_1 hHeld ⊢
     refine plx_ 1 #[false, true, false, false, false, false, false, false, false, false, false, false, false, false, false, false, false] ?_
     refine plx_ 3 #[false, true, false, true, false, false, false, false, false, false, false, false, false, false, false, false, false] ?_
     refine plx_ 7 #[false, true, false, true, false, false, false, true, false, false, false, false, false, false, false, false, false] ?_
     refine plx_ 8 #[false, true, false, true, false, false, false, true, true, false, false, false, false, false, false, false, false] ?_
     refine plx_ 10 #[false, true, false, true, false, false, false, true, true, false, true, false, false, false, false, false, false] ?_
     refine tlx_ 0 #[true, true, false, true, false, false, false, true, true, false, true, false, false, false, false, false, false] ?_
     refine tlx_ 2 #[true, true, true, true, false, false, false, true, true, false, true, false, false, false, false, false, false] ?_
     refine plx_ 4 #[true, true, true, true, true, false, false, true, true, false, true, false, false, false, false, false, false] ?_
     refine plx_ 5 #[true, true, true, true, true, true, false, true, true, false, true, false, false, false, false, false, false] ?_
     refine tlx_ 6 #[true, true, true, true, true, true, true, true, true, false, true, false, false, false, false, false, false] ?_
     refine tlx_ 9 (tf 11 6) ?_
     iterate 2 (refine pl_ ?_)
     refine tl_ ?_
     refine pl_ ?_
     refine one_ (i := 15) (N := some 33) (tf 16 1) rfl rfl (one_of HT_.out (by kernel_rfl)) (by decide) (fun K hK => ?_)
     refine gs_ Try.func43 #[.agg #[.int .i64 x169000_1, .slice Ao26 x169001_1.length co26], .slice A169_0 ((rd_T74 l1_1 x8_1).f0).length c169_0, .int .i64 (wrap64 (a2 * ((rd_T74 l1_1 x8_1).f1)))] ?_
     with_reducible refine (spec_l02Put.calls k1 x169000_1 (fun k_ => (w.heap.size ≤ k_) ∧ k_ ≠ gb161 ∧ k_ ≠ gb162 ∧ k_ ≠ gb163 ∧ k_ ≠ gb168) w.heap.size _ _ x169001_1 _ _ ((rd_T74 l1_1 x8_1).f0) (wrap64 (a2 * ((rd_T74 l1_1 x8_1).f1))) t171 t172 _ ?side1 ?side2 ?side3 ?side4 A20.out).mono ?_
     (case side1 => exact (by (with_reducible repeat (first | apply Kd.N_alloc | apply Kd.N_drewN | apply Kd.N_drew)); exact HO_169001.out))
     (case side2 => exact below_size (show Below w.heap.size w _ from bb_))
     (case side3 => exact ck_ (Kd.C_below HR169_0.out HB.out))
     (case side4 => exact HC169_0.out)
     rintro e w27 ⟨v173, rfl, ho0, hg2, hat⟩
     refine ⟨_, rfl, ?_⟩
     have hY := (show Kd.N k74 74 _ w.heap.size (fun k_ => (w.heap.size ≤ k_) ∧ k_ ≠ gb161 ∧ k_ ≠ gb162 ∧ k_ ≠ gb163 ∧ k_ ≠ gb168) (.slice Ao26 x169001_1.length co26) _ from HO_169001.out)
     have HO174 := Aside0.mk (Kd.N_mono (ok' := fun k_ => (w.heap.size ≤ k_) ∧ True ∧ k_ ≠ gb161 ∧ k_ ≠ gb162 ∧ k_ ≠ gb163 ∧ k_ ≠ gb168) ho0 (fun k_ hk_ => hk_.elim (fun h_ => ⟨h_.1, trivial, h_.2⟩) (fun hk_ => ⟨(Nat.le_trans (below_size bb_) hk_), trivial, (Kd.freshB (g := gb161) (o := .cells #[.int .i64 a0_0, .slice A0_1 l0_1.length c0_1] 40 (0, 0)) (bkx_ BK161.out) k_ hk_), (Kd.freshB (g := gb162) (o := .cells #[.int .i64 a1_0, .slice (some ad169) l1_1.length c1_1] 40 (0, 0)) (bkx_ BK162.out) k_ hk_), (Kd.freshB (g := gb163) (o := .cells #[.int .i64 0, .slice none 0 0] 40 (0, 0)) (bkx_ BK163.out) k_ hk_), (Kd.freshB (g := gb168) (o := .cells #[.int .i64 x169000_1, .slice Ao26 x169001_1.length co26] 40 (0, 0)) (bkx_ BK168.out) k_ hk_)⟩)))
     have nBK161_ := Aside0.mk (blk_grown (g := gb161) (bkx_ BK161.out) hg2 (Kd.N_away hY (fun k_ hk => hk.2.1)))
     have nBK162_ := Aside0.mk (blk_grown (g := gb162) (bkx_ BK162.out) hg2 (Kd.N_away hY (fun k_ hk => hk.2.2.1)))
     have nBK163_ := Aside0.mk (blk_grown (g := gb163) (bkx_ BK163.out) hg2 (Kd.N_away hY (fun k_ hk => hk.2.2.2.1)))
     have nBK168_ := Aside0.mk (blk_grown (g := gb168) (bkx_ BK168.out) hg2 (Kd.N_away hY (fun k_ hk => hk.2.2.2.2)))
     have nHB_ := Aside0.mk (Below.grown (B := w.heap.size) (show Below w.heap.size w _ from bb_) hg2 (below_size (show Below w.heap.size w _ from bb_)) (fun k_ e_ => Kd.N_base hY k_ e_))
     clear BK161 BK162 BK163 BK168 HB HO_169001 hg2 hat hY
     have BK161 := nBK161_
     have BK162 := nBK162_
     have BK163 := nBK163_
     have BK168 := nBK168_
     have HB := nHB_
     clear nBK161_ nBK162_ nBK163_ nBK168_ nHB_
     (try clear ho0)
     obtain ⟨Ao29, co29, eo29⟩ := Kd.N_slice HO174.out
     (first | subst eo29 | (injection eo29 with f1_ f2_ f3_; have f4_ := f1_.symm; have f5_ := f3_.symm; clear f1_ f2_ f3_; subst f4_; subst f5_))
     refine hK.out _ _ ⟨bc_ BK168 0, bc_ BK168 1, bc_ BK162 0, bc_ BK162 1, (have h_ := hb_ HB hw169_0; h_), (have h_ := hb_ HB hw169_1; h_), (have h_ := hb_ HB hw170_0; h_), (have h_ := hb_ HB hw170_1; h_)⟩ (fun hHeld => ?_)
     clear hK K
     refine nm_ ?_
     refine last_ (i := 16) (N := none) (tf 17 0) rfl rfl (one_of HT_.out (by kernel_rfl)) (by decide) (fun K hK => ?_)
     have hs28 : w27.cell? ⟨gb168, 0, none⟩ = some (.int .i64 x169000_1) := bc_ BK168 0
     have hfs28 := blk_frozen BK168.out 0
     have hns28_0 := NB161_168.out
     have hns28_1 := NB162_168.out
     have hns28_2 := NB163_168.out
     have hms28_0 := NB168_161.out
     have hms28_1 := NB168_162.out
     have hms28_2 := NB168_163.out
     have hs30 : w27.cell? ⟨gb168, 1, none⟩ = some (.slice Ao26 x169001_1.length co26) := bc_ BK168 1
     have hfs30 := blk_frozen BK168.out 1
     have hns30_0 := NB161_168.out
     have hns30_1 := NB162_168.out
     have hns30_2 := NB163_168.out
     have hms30_0 := NB168_161.out
     have hms30_1 := NB168_162.out
     have hms30_2 := NB168_163.out
     refine skip_ (w1 := ?_) (by rfl) rfl ?_ ?_
     rotate_left
     ·go_simp
      rfl
     refine hK.out _ _ ?_
     clear hK K
     refine done_ (done_of HT_.out (by kernel_rfl)) ?_
     try go_wp2
     go_roundg k1
     case measure => have := HK1.out; omega
     case rel => exact ⟨(wrap64 (x8_1 + 1)), (t171), (t172), (.slice Ao29 t172.length co29), rs_, H', ⟨by have := HK1.out; omega⟩, ⟨by (with_reducible repeat (first | apply Kd.N_alloc | apply Kd.N_drewN | apply Kd.N_drew)); exact Kd.N_mono (Kd.N_far (p := ⟨gb168, 1, none⟩) (Kd.N_far (p := ⟨gb168, 0, none⟩) (Kd.N_mono HO174.out (fun k_ hk => (⟨hk, hk.2.2.2.2.2⟩ : _ ∧ k_ ≠ gb168))) (fun _ hk => hk.2) (.int .i64 t171)) (fun _ hk => hk.2) (.slice Ao29 t172.length co29)) (fun _ hk => ⟨hk.1.1, ⟨hk.1.2.2.1, ⟨hk.1.2.2.2.1, ⟨hk.1.2.2.2.2.1, hk.1.2.2.2.2.2⟩⟩⟩⟩)⟩, ⟨(bf2_ NB161_168 (bkx_ BK161.out))⟩, ⟨(bf2_ NB162_168 (bkx_ BK162.out))⟩, ⟨(bf2_ NB163_168 (bkx_ BK163.out))⟩, ⟨(bp2_ (bkx_ BK168.out))⟩, ⟨bb_⟩⟩
    ·rw [if_neg c19] at H
     exact absurd H (by simp)
   ·rw [if_neg c18] at H
    have c18b0 : decide (x8_1 < (l1_1.length : Int)) = false := decide_eq_false c18
    clear c18
    simp only [Option.some.injEq, Prod.mk.injEq] at H
    obtain ⟨rfl, rfl⟩ := H
    have hnb31 := NB162_161.out
    have hnc31 := NB161_162.out
    have hnb32 := NB162_163.out
    have hnc32 := NB163_162.out
    have hnb33 := NB162_168.out
    have hnc33 := NB168_162.out
    obtain ⟨hcz34_0, hcz34_1, hfz34_0, hfz34_1⟩ := b2_ BK162
    have hnb35 := NB168_161.out
    have hnc35 := NB161_168.out
    have hnb36 := NB168_163.out
    have hnc36 := NB163_168.out
    obtain ⟨hcz37_0, hcz37_1, hfz37_0, hfz37_1⟩ := b2_ BK168
    have hnb38 := NB163_161.out
    have hnc38 := NB161_163.out
    obtain ⟨hcz39_0, hcz39_1, hfz39_0, hfz39_1⟩ := b2_ BK163
    obtain ⟨Ao40, co40, eo40⟩ := Kd.N_slice HO_169001.out
    subst eo40
    go_wp2
    refine bodyPost_ret (results_cell_row rfl _ _ gb163 40 #[.int .i64 x169000_1, .slice Ao40 x169001_1.length co40] (0, 0) _ rfl (bp2_ (bkx_ BK163.out)) Try.underlying40 rfl (by kernel_rfl)) rfl ?_
    exact ⟨_, by first | rfl | (simp [errW_none, errW_some] <;> rfl) | (simp [*, errW_none, errW_some] <;> rfl), by (with_reducible repeat (first | apply Kd.N_alloc | apply Kd.N_drewN | apply Kd.N_drew)); exact Kd.N_mono (Kd.N_far (p := ⟨gb163, 1, none⟩) (Kd.N_far (p := ⟨gb163, 0, none⟩) (Kd.N_mono HO_169001.out (fun k_ hk => (⟨hk, hk.2.2.2.1⟩ : _ ∧ k_ ≠ gb163))) (fun _ hk => hk.2) (.int .i64 x169000_1)) (fun _ hk => hk.2) (.slice Ao40 x169001_1.length co40)) (fun _ hk => hk.1.1), by repeat (first | (with_reducible first | exact HB.out | apply below_alloc | apply pw_below_drewN | apply below_drew1 | refine below_set ?_ GE161.out | refine below_set ?_ GE162.out | refine below_set ?_ GE163.out | refine below_set ?_ GE168.out) | exact HB.out)⟩

end Go.Proofs.Ytapgfamppnhnmaa.PFnExactChangeOk
