-- WRITTEN BY xprint.py, a program of this session over the kit's printer: by nobody's hand
-- PRESSED
import Derived.Test.YtnibegacjmnhoaaPress
import Derived.Test.YtnibegacjmnhoaaPFnExactGetBagx0
import Derived.Test.YtnibegacjmnhoaaPFnExactGetBagx2
import Derived.Test.YtnibegacjmnhoaaPFnExactGetBagx7
import Derived.Test.YtnibegacjmnhoaaPFnExactGetBagx11
import Derived.Test.YtnibegacjmnhoaaPFnExactGetBagx12
namespace Go.Proofs.Ytnibegacjmnhoaa.PFnExactGetBag
open Go.RowKit Go.Proofs.YtnibegacjmnhoaaW.PrintWords Go.Proofs.YtnibegacjmnhoaaW.PrintLast Go.Proofs.YtnibegacjmnhoaaW.PrintMore
set_option linter.unusedVariables false
set_option linter.unusedSimpArgs false

/-! ### laws_FnExactGetBag: function 4 -/
-- by hand
mutual
def laws_FnExactGetBag.j0 : Nat → ByteArray → Bool → Bool → Int → List (S46) → Int → List (S46) → Option (Bool)
 | 0, _, _, _, _, _, _, _ => none
 | k + 1, x0, x4, x32, x253000, x253001, x259000, x259001 => if x32 = true then (none) else ((laws_markBag.f k x259000 x259001 1).bind fun bt260 => ((laws_heldBag.f k x259000 bt260.2 1).bind fun t261 => (if t261 < 0 then (none) else (if t261 = bt260.1 then ((impl_GetBag.f k x0).bind fun bt262 => ((laws_eqBag.f k bt262.1 bt262.2.1 x253000 x253001).bind fun t268 => (if t268 = true then (laws_FnExactGetBag.j1 k bt260.1 (bt262.2.2 != x4) x259000 bt260.2) else (none)))) else (none)))))
def laws_FnExactGetBag.j1 : Nat → Int → Bool → Int → List (S46) → Option (Bool)
 | 0, _, _, _, _ => none
 | k + 1, x7, x57, x259000, x259001 => if x57 = true then (none) else ((laws_heldBag.f k x259000 x259001 1).bind fun t269 => (if t269 < 0 then (none) else (if t269 = x7 then (some true) else (none))))
end
def laws_FnExactGetBag.f (k : Nat) (a0 : ByteArray) : Option (Bool) := if (a0.size : Int) > 1048576 then (some true) else ((spec_GetBag.f k a0).bind fun bt247 => ((impl_GetBag.f k a0).bind fun bt253 => ((laws_eqBag.f k bt253.1 bt253.2.1 bt247.1 bt247.2.1).bind fun t259 => (if t259 = true then (laws_FnExactGetBag.j0 k a0 bt247.2.2 (bt253.2.2 != bt247.2.2) bt247.1 bt247.2.1 bt253.1 bt253.2.1) else (none)))))
theorem bn_ {wN W0 W : World} (x : Below wN.heap.size wN W0) (h : Ext W0 W := by repeat (first | with_reducible exact Ext.refl | with_reducible apply Ext.alloc | with_reducible apply Ext.drewN | with_reducible apply Ext.drew | exact Ext.refl)) : Below wN.heap.size wN W := by
 induction h with
 | refl => exact x
 | alloc _ o ih => exact below_alloc ih o
 | drewN _ m ih => exact pw_below_drewN ih m
 | drew _ ih => exact below_drew1 ih
set_option maxHeartbeats 8000000 in
set_option maxRecDepth 100000 in
theorem laws_FnExactGetBag.calls (k : Nat) (a0 : ByteArray) (r : Bool) (w : World) (h : laws_FnExactGetBag.f k a0 = some r) :
  Calls Try.prog 4 #[.string a0] w fun e w' => e = .returned (.bool r) ∧ Below w.heap.size w w' := by
 have hu29 := Try.underlying29
 have HB := Aside0.mk (Below.refl w.heap.size w)
 have H : (if (a0.size : Int) > 1048576 then (some true) else ((spec_GetBag.f k a0).bind fun bt247 => ((impl_GetBag.f k a0).bind fun bt253 => ((laws_eqBag.f k bt253.1 bt253.2.1 bt247.1 bt247.2.1).bind fun t259 => (if t259 = true then (laws_FnExactGetBag.j0 k a0 bt247.2.2 (bt253.2.2 != bt247.2.2) bt247.1 bt247.2.1 bt253.1 bt253.2.1) else (none)))))) = some r := h
 clear h
 by_cases c2 : (a0.size : Int) > 1048576
 ·rw [if_pos c2] at H
  have c2b0 : decide (1048576 < (a0.size : Int)) = true := decide_eq_true c2
  have c2b1 : decide (1048576 < a0.size) = true := decide_eq_true (by omega)
  clear c2
  obtain rfl := Option.some.inj H
  go_enter Try.func4, Try.ntmps4
  go_wp2
  go_ret
  exact ⟨er_, bb_⟩
 ·rw [if_neg c2] at H
  have c2b0 : decide (1048576 < (a0.size : Int)) = false := decide_eq_false c2
  have c2b1 : decide (1048576 < a0.size) = false := decide_eq_false (by omega)
  clear c2
  replace H := Option.bind_eq_some_iff.mp H
  obtain ⟨⟨t247, t248, t251⟩, A30, H⟩ := H
  replace H : ((impl_GetBag.f k a0).bind fun bt253 => ((laws_eqBag.f k bt253.1 bt253.2.1 t247 t248).bind fun t259 => (if t259 = true then (laws_FnExactGetBag.j0 k a0 t251 (bt253.2.2 != t251) t247 t248 bt253.1 bt253.2.1) else (none)))) = some r := H
  have A3 := Aside0.mk A30
  clear A30
  replace H := Option.bind_eq_some_iff.mp H
  obtain ⟨⟨t253, t254, t257⟩, A40, H⟩ := H
  replace H : ((laws_eqBag.f k t253 t254 t247 t248).bind fun t259 => (if t259 = true then (laws_FnExactGetBag.j0 k a0 t251 (t257 != t251) t247 t248 t253 t254) else (none))) = some r := H
  have A4 := Aside0.mk A40
  clear A40
  have HC5 := Aside0.mk H
  clear H
  go_enter Try.func4, Try.ntmps4
  go_upto_region 5 with (first | ((with_reducible refine gate_callee (f := 10) rfl ?_); refine gsL_ (some 16) Try.func10 #[.string a0] ?_; (with_reducible refine (spec_GetBag.calls k a0 t247 t248 t251 _ A3.out).mono ?_); rintro e w6 ⟨v249, rfl, ho0, hb⟩; refine ⟨_, rfl, ?_⟩; have HO250 := Aside0.mk (Kd.S_lower ho0 (below_size bb_)); replace HB := bs_ hb; (try clear hb); (try clear hb2); (try clear hk); (try clear hi); (try clear ho0)) | ((with_reducible refine gate_dst (N := 3) rfl ?_); refine bx_ 3 #[.int .i64 0, .slice none 0 0] 29 ?_; intro gb252 hg w7 hbox hb; have BK252 := Aside0.mk (hbox); have GW252 := gw_ hg; have GE252 := gw_ hg; replace HO250 := Aside0.mk (Kd.S_below (sk_ HO250.out) hb); replace HB := bs_ hb; clear hb hbox hg; obtain ⟨hcz8_0, hcz8_1, hfz8_0, hfz8_1⟩ := b2_ BK252; obtain ⟨Ao9, co9, eo9⟩ := Kd.S_slice HO250.out; subst eo9) | ((with_reducible refine gate_callee (f := 11) rfl ?_); refine gsL_ (some 21) Try.func11 #[.string a0] ?_; (with_reducible refine (impl_GetBag.calls k a0 t253 t254 t257 _ A4.out).mono ?_); rintro e w10 ⟨v255, rfl, ho0, hb⟩; refine ⟨_, rfl, ?_⟩; obtain ⟨wN, hN0, hN1, hBN, hX0, hX1⟩ : ∃ wN : World, Aside0 (Below w.heap.size w wN) ∧ Aside0 (gb252 < wN.heap.size) ∧ Aside0 (Below wN.heap.size wN w10) ∧ Aside0 (Kd.S k46 46 w10 w.heap.size (fun k_ => k_ < wN.heap.size) (.slice Ao9 t248.length co9) t248) ∧ Aside0 (Kd.S k46 46 w10 wN.heap.size (fun _ => True) v255 t254) := ⟨_, ⟨bb_⟩, ⟨blk_lt (g := gb252) (bp2_ (bkx_ BK252.out))⟩, ⟨hb⟩, ⟨Kd.S_mono (Kd.S_old (sk_ (Kd.S_mono (Kd.S_far (p := ⟨gb252, 1, none⟩) (Kd.S_far (p := ⟨gb252, 0, none⟩) (Kd.S_types HO250.out BK252.out (by decide)) (fun _ hk => hk.2) (.int .i64 t247)) (fun _ hk => hk.2) (.slice Ao9 t248.length co9)) (fun _ h_ => h_.1))) hb) (fun _ h_ => h_.2)⟩, ⟨ho0⟩⟩; have n0_ := Aside0.mk (Kd.S_elder' (sk_ (Kd.S_mono (Kd.S_far (p := ⟨gb252, 1, none⟩) (Kd.S_far (p := ⟨gb252, 0, none⟩) (Kd.S_types HO250.out BK252.out (by decide)) (fun _ hk => hk.2) (.int .i64 t247)) (fun _ hk => hk.2) (.slice Ao9 t248.length co9)) (fun _ h_ => h_.1))) (Kd.S_base ho0) hb); have n1_ := Aside0.mk (Kd.S_lower (Kd.S_new' ho0 (Kd.S_lt (sk_ (Kd.S_mono (Kd.S_far (p := ⟨gb252, 1, none⟩) (Kd.S_far (p := ⟨gb252, 0, none⟩) (Kd.S_types HO250.out BK252.out (by decide)) (fun _ hk => hk.2) (.int .i64 t247)) (fun _ hk => hk.2) (.slice Ao9 t248.length co9)) (fun _ h_ => h_.1))))) (below_size bb_)); have n2_ := Aside0.mk (blk_below (g := gb252) (o := .cells #[.int .i64 t247, .slice Ao9 t248.length co9] 29 (0, 0)) (bp2_ (bkx_ BK252.out)) hb); have n3_ := bs_ hb; clear HO250; clear BK252; clear HB; have HO250 := n0_; have HO256 := n1_; have BK252 := n2_; have HB := n3_; clear n0_ n1_ n2_ n3_; (try clear hb); (try clear hb2); (try clear hk); (try clear hi); (try clear ho0)) | ((with_reducible refine gate_dst (N := 5) rfl ?_); refine bx_ 5 #[.int .i64 0, .slice none 0 0] 29 ?_; intro gb258 hg w11 hbox hb; have BK258 := Aside0.mk (hbox); have GW258 := gw_ hg; have GE258 := gw_ hg; have NB252_258 := nl_ hg BK252; have NB258_252 := ng_ hg BK252; have hN2 : Aside0 (¬ gb258 < wN.heap.size) := ⟨by rw [hg]; exact Nat.not_lt_of_le (below_size (bn_ hBN.out))⟩; replace hX0 := Aside0.mk (Kd.S_below (sk_ hX0.out) hb); replace hX1 := Aside0.mk (Kd.S_below (sk_ hX1.out) hb); replace hBN := Aside0.mk (below_step (bn_ hBN.out) hb); replace HO250 := Aside0.mk (Kd.S_below (sk_ HO250.out) hb); replace HO256 := Aside0.mk (Kd.S_below (sk_ HO256.out) hb); replace BK252 := bkb_ BK252 hb; replace HB := bs_ hb; clear hb hbox hg; have hnb12 := NB258_252.out; have hnc12 := NB252_258.out; obtain ⟨hcz13_0, hcz13_1, hfz13_0, hfz13_1⟩ := b2_ BK258; obtain ⟨Ao14, co14, eo14⟩ := Kd.S_slice HO256.out; subst eo14))
  (try simp only [Act.put, List.setIfInBounds_toArray, List.set_cons_zero, List.set_cons_succ])
  go_cut [32] (fun v32 wc => ∃ (kq : Nat) (x32_4 : Bool) (wN : World), Aside0 (Below w.heap.size w wN) ∧ Aside0 (gb252 < wN.heap.size) ∧ Aside0 (Below wN.heap.size wN wc) ∧ Aside0 (Kd.S k46 46 wc w.heap.size (fun k_ => k_ < wN.heap.size) (.slice Ao9 t248.length co9) t248) ∧ Aside0 (Kd.S k46 46 wc wN.heap.size (fun _ => True) (.slice Ao14 t254.length co14) t254) ∧ v32 = .bool x32_4 ∧ Aside0 (laws_FnExactGetBag.j0 kq a0 t251 x32_4 t247 t248 t253 t254 = some r) ∧ Aside0 (kq ≤ k) ∧ Aside0 (Kd.S k46 46 wc w.heap.size (fun k_ => some k_ ≠ ((.slice Ao14 t254.length co14) : Value).ownBlock) (.slice Ao9 t248.length co9) t248) ∧ Aside0 (Kd.S k46 46 wc w.heap.size (fun k_ => some k_ ≠ ((.slice Ao9 t248.length co9) : Value).ownBlock) (.slice Ao14 t254.length co14) t254) ∧ Aside0 (wc.heap[gb252]? = some (.cells #[.int .i64 t247, (.slice Ao9 t248.length co9)] 29 (0, 0))) ∧ Aside0 (wc.heap[gb258]? = some (.cells #[.int .i64 t253, (.slice Ao14 t254.length co14)] 29 (0, 0))) ∧ Aside0 (Below w.heap.size w wc))
  case first =>
   have H := HC5.out
   clear HC5
   replace H := Option.bind_eq_some_iff.mp H
   obtain ⟨t259, A150, H⟩ := H
   replace H : (if t259 = true then (laws_FnExactGetBag.j0 k a0 t251 (t257 != t251) t247 t248 t253 t254) else (none)) = some r := H
   have A15 := Aside0.mk A150
   clear A150
   by_cases c16 : t259 = true
   ·subst c16
    have H1 : (laws_FnExactGetBag.j0 k a0 t251 (t257 != t251) t247 t248 t253 t254) = some r := by rw [if_pos rfl] at H; exact H
    clear H
    have H := H1
    clear H1
    have H' := Aside0.mk H
    clear H
    have hnb17 := NB258_252.out
    have hnc17 := NB252_258.out
    obtain ⟨hcz18_0, hcz18_1, hfz18_0, hfz18_1⟩ := b2_ BK258
    obtain ⟨hcz19_0, hcz19_1, hfz19_0, hfz19_1⟩ := b2_ BK252
    go_wp2_with (first | ((with_reducible refine gate_callee (f := 9) rfl ?_); refine gsL_ (some 26) Try.func9 #[.agg #[.int .i64 t253, .slice Ao14 t254.length co14], .agg #[.int .i64 t247, .slice Ao9 t248.length co9]] ?_; (with_reducible refine (laws_eqBag.calls k t253 _ _ t254 t247 _ _ t248 true _ ?side1 ?side2 ?side3 ?side4 A15.out).mono ?_); (case side1 => refine (Kd.S_reads' (e := 46) (base := w.heap.size) (ok := fun k_ => (True ∧ some k_ ≠ (.slice Ao9 t248.length co9 : Value).ownBlock)) (n := t254.length) (c := co14) ?_).2.2; exact (sk_ (Kd.S_mono (Kd.S_far (p := ⟨gb258, 1, none⟩) (Kd.S_far (p := ⟨gb258, 0, none⟩) (Kd.S_types HO256.out BK258.out (by decide)) (fun _ hk => hk.2) (.int .i64 t253)) (fun _ hk => hk.2) (.slice Ao14 t254.length co14)) (fun _ h_ => h_.1)))); (case side2 => exact (Kd.S_reads' HO256.out).2.1); (case side3 => refine (Kd.S_reads' (e := 46) (base := w.heap.size) (ok := fun k_ => (True ∧ some k_ ≠ (.slice Ao14 t254.length co14 : Value).ownBlock)) (n := t248.length) (c := co9) ?_).2.2; exact (sk_ (Kd.S_mono (Kd.S_far (p := ⟨gb258, 1, none⟩) (Kd.S_far (p := ⟨gb258, 0, none⟩) (Kd.S_types HO250.out BK258.out (by decide)) (fun _ hk => hk.2) (.int .i64 t253)) (fun _ hk => hk.2) (.slice Ao14 t254.length co14)) (fun _ h_ => h_.1)))); (case side4 => exact (Kd.S_reads' HO250.out).2.1); rintro e w20 ⟨rfl, hb⟩; refine ⟨_, rfl, ?_⟩; have q0_ := Aside0.mk (Kd.S_below (sk_ (Kd.S_mono (Kd.S_far (p := ⟨gb258, 1, none⟩) (Kd.S_far (p := ⟨gb258, 0, none⟩) (Kd.S_types hX0.out BK258.out (by decide)) (fun _ hk => hk.2) (.int .i64 t253)) (fun _ hk => hk.2) (.slice Ao14 t254.length co14)) (fun _ h_ => h_.1))) hb); have q1_ := Aside0.mk (Kd.S_below (sk_ (Kd.S_mono (Kd.S_far (p := ⟨gb258, 1, none⟩) (Kd.S_far (p := ⟨gb258, 0, none⟩) (Kd.S_types hX1.out BK258.out (by decide)) (fun _ hk => hk.2) (.int .i64 t253)) (fun _ hk => hk.2) (.slice Ao14 t254.length co14)) (fun _ h_ => h_.1))) hb); have q2_ := Aside0.mk (below_step (bn_ (below_set (below_set hBN.out (Nat.le_of_not_lt hN2.out)) (Nat.le_of_not_lt hN2.out))) hb); clear hX0 hX1 hBN; have hX0 := q0_; have hX1 := q1_; have hBN := q2_; clear q0_ q1_ q2_; have n0_ := Aside0.mk (Kd.S_below (sk_ (Kd.S_mono (Kd.S_far (p := ⟨gb258, 1, none⟩) (Kd.S_far (p := ⟨gb258, 0, none⟩) (Kd.S_types HO250.out BK258.out (by decide)) (fun _ hk => hk.2) (.int .i64 t253)) (fun _ hk => hk.2) (.slice Ao14 t254.length co14)) (fun _ h_ => h_.1))) hb); have n1_ := Aside0.mk (Kd.S_below (sk_ (Kd.S_mono (Kd.S_far (p := ⟨gb258, 1, none⟩) (Kd.S_far (p := ⟨gb258, 0, none⟩) (Kd.S_types HO256.out BK258.out (by decide)) (fun _ hk => hk.2) (.int .i64 t253)) (fun _ hk => hk.2) (.slice Ao14 t254.length co14)) (fun _ h_ => h_.1))) hb); have n2_ := Aside0.mk (blk_below (g := gb252) (o := .cells #[.int .i64 t247, .slice Ao9 t248.length co9] 29 (0, 0)) (bf2_ NB252_258 (bkx_ BK252.out)) hb); have n3_ := Aside0.mk (blk_below (g := gb258) (o := .cells #[.int .i64 t253, .slice Ao14 t254.length co14] 29 (0, 0)) (bp2_ (bkx_ BK258.out)) hb); have n4_ := bs_ hb; clear HO250; clear HO256; clear BK252; clear BK258; clear HB; have HO250 := n0_; have HO256 := n1_; have BK252 := n2_; have BK258 := n3_; have HB := n4_; clear n0_ n1_ n2_ n3_ n4_; (try clear hb); (try clear hb2); (try clear hk); (try clear hi)))
    go_meet
    case rel => exact ⟨_, ((t257 != t251)), wN, hN0, hN1, ⟨bn_ hBN.out⟩, ⟨sk_ hX0.out⟩, ⟨sk_ hX1.out⟩, rs_, H', ⟨by first | omega | exact Nat.le_refl _⟩, ⟨by (with_reducible repeat (first | apply Kd.S_alloc | apply Kd.S_drewN | apply Kd.S_drew)); exact Kd.S_mono HO250.out (fun _ hk => hk.2)⟩, ⟨by (with_reducible repeat (first | apply Kd.S_alloc | apply Kd.S_drewN | apply Kd.S_drew)); exact Kd.S_mono HO256.out (fun _ hk => hk.2)⟩, ⟨bkx_ BK252.out⟩, ⟨bkx_ BK258.out⟩, ⟨bb_⟩⟩
   ·replace c16 := Bool.eq_false_iff.mpr c16
    subst c16
    have H1 : (none) = some r := by rw [if_neg (show ¬ (false = true) by decide)] at H; exact H
    clear H
    have H := H1
    clear H1
    exact absurd H (by simp)
  case rest =>
   clear HC5
   try clear c1
   try clear c2
   try clear c2b0
   try clear c2b1
   try clear p2
   try clear c4
   try clear c9
   try clear c10
   try clear c11
   try clear c12
   try clear c16
   try clear c17
   try clear hcz13_0
   try clear hcz13_1
   try clear hcz18_0
   try clear hcz18_1
   try clear hcz19_0
   try clear hcz19_1
   try clear hcz8_0
   try clear hcz8_1
   try clear hfz13_0
   try clear hfz13_1
   try clear hfz18_0
   try clear hfz18_1
   try clear hfz19_0
   try clear hfz19_1
   try clear hfz8_0
   try clear hfz8_1
   obtain ⟨kq, x32_4, wN, hN0, hN1, hBN, hX0, hX1, rfl, HA, HJ4, HO_253001, HO_259001, BK252, BK258, HB⟩ := hcut
   cases kq with
   | zero => exact absurd HA.out (by simp [laws_FnExactGetBag.j0])
   | succ kj4 =>
    have H := HA.out
    clear HA
    simp only [laws_FnExactGetBag.j0] at H
    by_cases c21 : x32_4 = true
    ·subst c21
     have H1 : (none) = some r := by rw [if_pos rfl] at H; exact H
     clear H
     have H := H1
     clear H1
     exact absurd H (by simp)
    ·replace c21 := Bool.eq_false_iff.mpr c21
     subst c21
     have H1 : ((laws_markBag.f kj4 t253 t254 1).bind fun bt260 => ((laws_heldBag.f kj4 t253 bt260.2 1).bind fun t261 => (if t261 < 0 then (none) else (if t261 = bt260.1 then ((impl_GetBag.f kj4 a0).bind fun bt262 => ((laws_eqBag.f kj4 bt262.1 bt262.2.1 t247 t248).bind fun t268 => (if t268 = true then (laws_FnExactGetBag.j1 kj4 bt260.1 (bt262.2.2 != t251) t253 bt260.2) else (none)))) else (none))))) = some r := by rw [if_neg (show ¬ (false = true) by decide)] at H; exact H
     clear H
     have H := H1
     clear H1
     replace H := Option.bind_eq_some_iff.mp H
     obtain ⟨⟨t260, m254⟩, A220, H⟩ := H
     replace H : ((laws_heldBag.f kj4 t253 m254 1).bind fun t261 => (if t261 < 0 then (none) else (if t261 = t260 then ((impl_GetBag.f kj4 a0).bind fun bt262 => ((laws_eqBag.f kj4 bt262.1 bt262.2.1 t247 t248).bind fun t268 => (if t268 = true then (laws_FnExactGetBag.j1 kj4 t260 (bt262.2.2 != t251) t253 m254) else (none)))) else (none)))) = some r := H
     have A22 := Aside0.mk A220
     clear A220
     replace H := Option.bind_eq_some_iff.mp H
     obtain ⟨t261, A230, H⟩ := H
     replace H : (if t261 < 0 then (none) else (if t261 = t260 then ((impl_GetBag.f kj4 a0).bind fun bt262 => ((laws_eqBag.f kj4 bt262.1 bt262.2.1 t247 t248).bind fun t268 => (if t268 = true then (laws_FnExactGetBag.j1 kj4 t260 (bt262.2.2 != t251) t253 m254) else (none)))) else (none))) = some r := H
     have A23 := Aside0.mk A230
     clear A230
     by_cases c24 : t261 < 0
     ·rw [if_pos c24] at H
      exact absurd H (by simp)
     ·rw [if_neg c24] at H
      have c24b0 : decide (t261 < 0) = false := decide_eq_false c24
      clear c24
      by_cases c25 : t261 = t260
      ·rw [if_pos c25] at H
       have c25b0 : (t261 == t260) = true := beq_iff_eq.mpr c25
       have c25b1 : (t261 != t260) = false := bne_eq_false_iff_eq.mpr c25
       clear c25
       replace H := Option.bind_eq_some_iff.mp H
       obtain ⟨⟨t262, t263, t266⟩, A260, H⟩ := H
       replace H : ((laws_eqBag.f kj4 t262 t263 t247 t248).bind fun t268 => (if t268 = true then (laws_FnExactGetBag.j1 kj4 t260 (t266 != t251) t253 m254) else (none))) = some r := H
       have A26 := Aside0.mk A260
       clear A260
       have HC27 := Aside0.mk H
       clear H
       have hnb28 := NB258_252.out
       have hnc28 := NB252_258.out
       obtain ⟨hcz29_0, hcz29_1, hfz29_0, hfz29_1⟩ := b2_ BK258
       go_upto_region 16 with (first | ((with_reducible refine gate_callee (f := 12) rfl ?_); refine gsL_ (some 35) Try.func12 #[.agg #[.int .i64 t253, .slice Ao14 t254.length co14], .int .i64 1] ?_; (with_reducible refine (laws_markBag.calls kj4 (fun k_ => wN.heap.size ≤ k_ ∧ k_ ≠ gb258) t253 _ _ _ t254 1 t260 m254 wN _ (bn_ hBN.out) (Kd.S_mono (Kd.S_bound (sk_ (Kd.S_types hX1.out BK258.out (by decide)))) (fun _ h_ => ⟨h_.2.1, h_.1.2⟩)) A22.out).mono ?_); rintro e w30 ⟨rfl, hS2, hB2, hK2⟩; refine ⟨_, rfl, ?_⟩; have hl_ := (Kd.S_reads' hS2).1; have hx_ := Kd.S_kept (sk_ hX0.out) hK2 (fun k_ hk h_ => Nat.not_lt_of_le h_.1 hk); have n1_ := Aside0.mk (blk_kept (g := gb252) (bkx_ BK252.out) hK2 (fun h_ => Nat.not_lt_of_le h_.1 hN1.out)); have n2_ := Aside0.mk (blk_kept (g := gb258) (bkx_ BK258.out) hK2 (fun h_ => h_.2 rfl)); have n3_ := Aside0.mk (below_step hN0.out hB2); rw [hl_] at n2_ hS2; clear HO_253001 HO_259001 BK252 BK258 HB; have HO_253001 := Aside0.mk (show Kd.S k46 46 w30 w.heap.size (fun k_ => some k_ ≠ ((.slice Ao14 m254.length co14) : Value).ownBlock) (.slice Ao9 t248.length co9) t248 from Kd.S_mono hx_ (fun k_ h_ e_ => Nat.not_lt_of_le (Kd.S_base hS2 k_ e_.symm) h_)); have HO_259001 := Aside0.mk (show Kd.S k46 46 w30 w.heap.size (fun k_ => some k_ ≠ ((.slice Ao9 t248.length co9) : Value).ownBlock) (.slice Ao14 m254.length co14) m254 from Kd.S_mono (Kd.S_lower (Kd.S_bound hS2) (below_size hN0.out)) (fun k_ h_ e_ => Nat.not_lt_of_le h_.2.1 ((Kd.S_R hx_).1 k_ e_.symm))); have BK252 := n1_; have BK258 := n2_; have HB := n3_; clear n1_ n2_ n3_ hS2 hB2 hK2 hX0 hX1 hBN hx_ hl_; obtain ⟨hcz31_0, hcz31_1, hfz31_0, hfz31_1⟩ := b2_ BK258) | ((with_reducible refine gate_callee (f := 13) rfl ?_); refine gsL_ (some 38) Try.func13 #[.agg #[.int .i64 t253, .slice Ao14 m254.length co14], .int .i64 1] ?_; (with_reducible refine (laws_heldBag.calls kj4 t253 _ _ m254 1 t261 _ ?side1 ?side2 A23.out).mono ?_); (case side1 => exact ck_ (Kd.S_reads' HO_259001.out).2.2); (case side2 => exact (Kd.S_reads' HO_259001.out).2.1); rintro e w32 ⟨rfl, hb⟩; refine ⟨_, rfl, ?_⟩; replace HO_253001 := Aside0.mk (Kd.S_below (sk_ HO_253001.out) hb); replace HO_259001 := Aside0.mk (Kd.S_below (sk_ HO_259001.out) hb); replace BK252 := bkb_ BK252 hb; replace BK258 := bkb_ BK258 hb; replace HB := bs_ hb; (try clear hb); (try clear hb2); (try clear hk); (try clear hi)) | ((with_reducible refine gate_callee (f := 11) rfl ?_); refine gsL_ (some 46) Try.func11 #[.string a0] ?_; (with_reducible refine (impl_GetBag.calls kj4 a0 t262 t263 t266 _ A26.out).mono ?_); rintro e w33 ⟨v264, rfl, ho0, hb⟩; refine ⟨_, rfl, ?_⟩; have HO265 := Aside0.mk (Kd.S_lower (Kd.S_new' (Kd.S_new' ho0 (Kd.S_lt (sk_ HO_253001.out))) (Kd.S_lt (sk_ HO_259001.out))) (below_size bb_)); replace HO_253001 := Aside0.mk (Kd.S_elder' (sk_ HO_253001.out) (Kd.S_base ho0) hb); replace HO_259001 := Aside0.mk (Kd.S_elder' (sk_ HO_259001.out) (Kd.S_base ho0) hb); replace BK252 := bkb_ BK252 hb; replace BK258 := bkb_ BK258 hb; replace HB := bs_ hb; (try clear hb); (try clear hb2); (try clear hk); (try clear hi); (try clear ho0)) | ((with_reducible refine gate_dst (N := 9) rfl ?_); refine bx_ 9 #[.int .i64 0, .slice none 0 0] 29 ?_; intro gb267 hg w34 hbox hb; have BK267 := Aside0.mk (hbox); have GW267 := gw_ hg; have GE267 := gw_ hg; have NB252_267 := nl_ hg BK252; have NB267_252 := ng_ hg BK252; have NB258_267 := nl_ hg BK258; have NB267_258 := ng_ hg BK258; replace HO_253001 := Aside0.mk (Kd.S_below (sk_ HO_253001.out) hb); replace HO_259001 := Aside0.mk (Kd.S_below (sk_ HO_259001.out) hb); replace HO265 := Aside0.mk (Kd.S_below (sk_ HO265.out) hb); replace BK252 := bkb_ BK252 hb; replace BK258 := bkb_ BK258 hb; replace HB := bs_ hb; clear hb hbox hg; have hnb35 := NB267_252.out; have hnc35 := NB252_267.out; have hnb36 := NB267_258.out; have hnc36 := NB258_267.out; obtain ⟨hcz37_0, hcz37_1, hfz37_0, hfz37_1⟩ := b2_ BK267; obtain ⟨Ao38, co38, eo38⟩ := Kd.S_slice HO265.out; subst eo38))
       (try simp only [Act.put, List.setIfInBounds_toArray, List.set_cons_zero, List.set_cons_succ])
       go_cut [57] (fun v57 wc => ∃ (kq : Nat) (x57_26 : Bool), v57 = .bool x57_26 ∧ Aside0 (laws_FnExactGetBag.j1 kq t260 x57_26 t253 m254 = some r) ∧ Aside0 (kq ≤ kj4) ∧ Aside0 (Kd.S k46 46 wc w.heap.size (fun k_ => some k_ ≠ ((.slice Ao14 m254.length co14) : Value).ownBlock ∧ some k_ ≠ ((.slice Ao38 t263.length co38) : Value).ownBlock) (.slice Ao9 t248.length co9) t248) ∧ Aside0 (Kd.S k46 46 wc w.heap.size (fun k_ => some k_ ≠ ((.slice Ao9 t248.length co9) : Value).ownBlock ∧ some k_ ≠ ((.slice Ao38 t263.length co38) : Value).ownBlock) (.slice Ao14 m254.length co14) m254) ∧ Aside0 (Kd.S k46 46 wc w.heap.size (fun k_ => some k_ ≠ ((.slice Ao9 t248.length co9) : Value).ownBlock ∧ some k_ ≠ ((.slice Ao14 m254.length co14) : Value).ownBlock) (.slice Ao38 t263.length co38) t263) ∧ Aside0 (wc.heap[gb252]? = some (.cells #[.int .i64 t247, (.slice Ao9 t248.length co9)] 29 (0, 0))) ∧ Aside0 (wc.heap[gb258]? = some (.cells #[.int .i64 t253, (.slice Ao14 m254.length co14)] 29 (0, 0))) ∧ Aside0 (wc.heap[gb267]? = some (.cells #[.int .i64 t262, (.slice Ao38 t263.length co38)] 29 (0, 0))) ∧ Aside0 (Below w.heap.size w wc))
       case first =>
        have H := HC27.out
        clear HC27
        replace H := Option.bind_eq_some_iff.mp H
        obtain ⟨t268, A390, H⟩ := H
        replace H : (if t268 = true then (laws_FnExactGetBag.j1 kj4 t260 (t266 != t251) t253 m254) else (none)) = some r := H
        have A39 := Aside0.mk A390
        clear A390
        by_cases c40 : t268 = true
        ·subst c40
         have H1 : (laws_FnExactGetBag.j1 kj4 t260 (t266 != t251) t253 m254) = some r := by rw [if_pos rfl] at H; exact H
         clear H
         have H := H1
         clear H1
         have H' := Aside0.mk H
         clear H
         have hnb41 := NB267_252.out
         have hnc41 := NB252_267.out
         have hnb42 := NB267_258.out
         have hnc42 := NB258_267.out
         obtain ⟨hcz43_0, hcz43_1, hfz43_0, hfz43_1⟩ := b2_ BK267
         have hnb44 := NB252_258.out
         have hnc44 := NB258_252.out
         obtain ⟨hcz45_0, hcz45_1, hfz45_0, hfz45_1⟩ := b2_ BK252
         go_wp2_with (first | ((with_reducible refine gate_callee (f := 9) rfl ?_); refine gsL_ (some 51) Try.func9 #[.agg #[.int .i64 t262, .slice Ao38 t263.length co38], .agg #[.int .i64 t247, .slice Ao9 t248.length co9]] ?_; (with_reducible refine (laws_eqBag.calls kj4 t262 _ _ t263 t247 _ _ t248 true _ ?side1 ?side2 ?side3 ?side4 A39.out).mono ?_); (case side1 => refine (Kd.S_reads' (e := 46) (base := w.heap.size) (ok := fun k_ => ((True ∧ some k_ ≠ (.slice Ao9 t248.length co9 : Value).ownBlock) ∧ some k_ ≠ (.slice Ao14 m254.length co14 : Value).ownBlock)) (n := t263.length) (c := co38) ?_).2.2; exact (sk_ (Kd.S_mono (Kd.S_far (p := ⟨gb267, 1, none⟩) (Kd.S_far (p := ⟨gb267, 0, none⟩) (Kd.S_types HO265.out BK267.out (by decide)) (fun _ hk => hk.2) (.int .i64 t262)) (fun _ hk => hk.2) (.slice Ao38 t263.length co38)) (fun _ h_ => h_.1)))); (case side2 => exact (Kd.S_reads' HO265.out).2.1); (case side3 => refine (Kd.S_reads' (e := 46) (base := w.heap.size) (ok := fun k_ => (some k_ ≠ (.slice Ao14 m254.length co14 : Value).ownBlock ∧ some k_ ≠ (.slice Ao38 t263.length co38 : Value).ownBlock)) (n := t248.length) (c := co9) ?_).2.2; exact (sk_ (Kd.S_mono (Kd.S_far (p := ⟨gb267, 1, none⟩) (Kd.S_far (p := ⟨gb267, 0, none⟩) (Kd.S_types HO_253001.out BK267.out (by decide)) (fun _ hk => hk.2) (.int .i64 t262)) (fun _ hk => hk.2) (.slice Ao38 t263.length co38)) (fun _ h_ => h_.1)))); (case side4 => exact (Kd.S_reads' HO_253001.out).2.1); rintro e w46 ⟨rfl, hb⟩; refine ⟨_, rfl, ?_⟩; have n0_ := Aside0.mk (Kd.S_below (sk_ (Kd.S_mono (Kd.S_far (p := ⟨gb267, 1, none⟩) (Kd.S_far (p := ⟨gb267, 0, none⟩) (Kd.S_types HO_253001.out BK267.out (by decide)) (fun _ hk => hk.2) (.int .i64 t262)) (fun _ hk => hk.2) (.slice Ao38 t263.length co38)) (fun _ h_ => h_.1))) hb); have n1_ := Aside0.mk (Kd.S_below (sk_ (Kd.S_mono (Kd.S_far (p := ⟨gb267, 1, none⟩) (Kd.S_far (p := ⟨gb267, 0, none⟩) (Kd.S_types HO_259001.out BK267.out (by decide)) (fun _ hk => hk.2) (.int .i64 t262)) (fun _ hk => hk.2) (.slice Ao38 t263.length co38)) (fun _ h_ => h_.1))) hb); have n2_ := Aside0.mk (Kd.S_below (sk_ (Kd.S_mono (Kd.S_far (p := ⟨gb267, 1, none⟩) (Kd.S_far (p := ⟨gb267, 0, none⟩) (Kd.S_types HO265.out BK267.out (by decide)) (fun _ hk => hk.2) (.int .i64 t262)) (fun _ hk => hk.2) (.slice Ao38 t263.length co38)) (fun _ h_ => h_.1))) hb); have n3_ := Aside0.mk (blk_below (g := gb252) (o := .cells #[.int .i64 t247, .slice Ao9 t248.length co9] 29 (0, 0)) (bf2_ NB252_267 (bkx_ BK252.out)) hb); have n4_ := Aside0.mk (blk_below (g := gb258) (o := .cells #[.int .i64 t253, .slice Ao14 m254.length co14] 29 (0, 0)) (bf2_ NB258_267 (bkx_ BK258.out)) hb); have n5_ := Aside0.mk (blk_below (g := gb267) (o := .cells #[.int .i64 t262, .slice Ao38 t263.length co38] 29 (0, 0)) (bp2_ (bkx_ BK267.out)) hb); have n6_ := bs_ hb; clear HO_253001; clear HO_259001; clear HO265; clear BK252; clear BK258; clear BK267; clear HB; have HO_253001 := n0_; have HO_259001 := n1_; have HO265 := n2_; have BK252 := n3_; have BK258 := n4_; have BK267 := n5_; have HB := n6_; clear n0_ n1_ n2_ n3_ n4_ n5_ n6_; (try clear hb); (try clear hb2); (try clear hk); (try clear hi)))
         go_meet
         case rel => exact ⟨_, ((t266 != t251)), rs_, H', ⟨by have := HJ4.out; first | omega | exact Nat.le_refl _⟩, ⟨by (with_reducible repeat (first | apply Kd.S_alloc | apply Kd.S_drewN | apply Kd.S_drew)); exact HO_253001.out⟩, ⟨by (with_reducible repeat (first | apply Kd.S_alloc | apply Kd.S_drewN | apply Kd.S_drew)); exact HO_259001.out⟩, ⟨by (with_reducible repeat (first | apply Kd.S_alloc | apply Kd.S_drewN | apply Kd.S_drew)); exact Kd.S_mono HO265.out (fun _ hk => ⟨hk.1.2, hk.2⟩)⟩, ⟨bkx_ BK252.out⟩, ⟨bkx_ BK258.out⟩, ⟨bkx_ BK267.out⟩, ⟨bb_⟩⟩
        ·replace c40 := Bool.eq_false_iff.mpr c40
         subst c40
         have H1 : (none) = some r := by rw [if_neg (show ¬ (false = true) by decide)] at H; exact H
         clear H
         have H := H1
         clear H1
         exact absurd H (by simp)
       case rest =>
        clear HC27
        try clear c1
        try clear c2
        try clear c2b0
        try clear c2b1
        try clear p2
        try clear c3
        try clear c4
        try clear c9
        try clear c10
        try clear c11
        try clear c12
        try clear c13
        try clear c16
        try clear c17
        try clear c21
        try clear c24
        try clear c24b0
        try clear c25
        try clear c25b0
        try clear c25b1
        try clear c28
        try clear c35
        try clear c36
        try clear c40
        try clear c41
        try clear c42
        try clear c44
        try clear hcz13_0
        try clear hcz13_1
        try clear hcz18_0
        try clear hcz18_1
        try clear hcz19_0
        try clear hcz19_1
        try clear hcz29_0
        try clear hcz29_1
        try clear hcz31_0
        try clear hcz31_1
        try clear hcz37_0
        try clear hcz37_1
        try clear hcz43_0
        try clear hcz43_1
        try clear hcz45_0
        try clear hcz45_1
        try clear hcz8_0
        try clear hcz8_1
        try clear hfz13_0
        try clear hfz13_1
        try clear hfz18_0
        try clear hfz18_1
        try clear hfz19_0
        try clear hfz19_1
        try clear hfz29_0
        try clear hfz29_1
        try clear hfz31_0
        try clear hfz31_1
        try clear hfz37_0
        try clear hfz37_1
        try clear hfz43_0
        try clear hfz43_1
        try clear hfz45_0
        try clear hfz45_1
        try clear hfz8_0
        try clear hfz8_1
        try clear p2
        obtain ⟨kq, x57_26, rfl, HA, HJ26, HO_253001, HO_259001, HO_268001, BK252, BK258, BK267, HB⟩ := hcut
        cases kq with
        | zero => exact absurd HA.out (by simp [laws_FnExactGetBag.j1])
        | succ kj26 =>
         have H := HA.out
         clear HA
         simp only [laws_FnExactGetBag.j1] at H
         by_cases c47 : x57_26 = true
         ·subst c47
          have H1 : (none) = some r := by rw [if_pos rfl] at H; exact H
          clear H
          have H := H1
          clear H1
          exact absurd H (by simp)
         ·replace c47 := Bool.eq_false_iff.mpr c47
          subst c47
          have H1 : ((laws_heldBag.f kj26 t253 m254 1).bind fun t269 => (if t269 < 0 then (none) else (if t269 = t260 then (some true) else (none)))) = some r := by rw [if_neg (show ¬ (false = true) by decide)] at H; exact H
          clear H
          have H := H1
          clear H1
          replace H := Option.bind_eq_some_iff.mp H
          obtain ⟨t269, A480, H⟩ := H
          replace H : (if t269 < 0 then (none) else (if t269 = t260 then (some true) else (none))) = some r := H
          have A48 := Aside0.mk A480
          clear A480
          by_cases c49 : t269 < 0
          ·rw [if_pos c49] at H
           exact absurd H (by simp)
          ·rw [if_neg c49] at H
           have c49b0 : decide (t269 < 0) = false := decide_eq_false c49
           clear c49
           by_cases c50 : t269 = t260
           ·rw [if_pos c50] at H
            have c50b0 : (t269 == t260) = true := beq_iff_eq.mpr c50
            have c50b1 : (t269 != t260) = false := bne_eq_false_iff_eq.mpr c50
            clear c50
            obtain rfl := Option.some.inj H
            have hnb51 := NB258_252.out
            have hnc51 := NB252_258.out
            have hnb52 := NB258_267.out
            have hnc52 := NB267_258.out
            obtain ⟨hcz53_0, hcz53_1, hfz53_0, hfz53_1⟩ := b2_ BK258
            go_wp2_with (first | ((with_reducible refine gate_callee (f := 13) rfl ?_); refine gsL_ (some 60) Try.func13 #[.agg #[.int .i64 t253, .slice Ao14 m254.length co14], .int .i64 1] ?_; (with_reducible refine (laws_heldBag.calls kj26 t253 _ _ m254 1 t269 _ ?side1 ?side2 A48.out).mono ?_); (case side1 => exact ck_ (Kd.S_reads' HO_259001.out).2.2); (case side2 => exact (Kd.S_reads' HO_259001.out).2.1); rintro e w54 ⟨rfl, hb⟩; refine ⟨_, rfl, ?_⟩; replace HO_253001 := Aside0.mk (Kd.S_below (sk_ HO_253001.out) hb); replace HO_259001 := Aside0.mk (Kd.S_below (sk_ HO_259001.out) hb); replace HO_268001 := Aside0.mk (Kd.S_below (sk_ HO_268001.out) hb); replace BK252 := bkb_ BK252 hb; replace BK258 := bkb_ BK258 hb; replace BK267 := bkb_ BK267 hb; replace HB := bs_ hb; (try clear hb); (try clear hb2); (try clear hk); (try clear hi)))
            go_ret
            exact ⟨er_, bb_⟩
           ·rw [if_neg c50] at H
            exact absurd H (by simp)
      ·rw [if_neg c25] at H
       exact absurd H (by simp)


end Go.Proofs.Ytnibegacjmnhoaa.PFnExactGetBag
