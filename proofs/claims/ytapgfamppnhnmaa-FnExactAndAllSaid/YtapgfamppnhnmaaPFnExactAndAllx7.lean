-- WRITTEN BY xprint.py, a program of this session over the kit's printer: by nobody's hand
-- PRESSED
import Derived.Test.YtapgfamppnhnmaaPress
import Derived.Test.YtapgfamppnhnmaaPFnExactAndAllx0
import Derived.Test.YtapgfamppnhnmaaPFnExactAndAllx5
import Derived.Test.YtapgfamppnhnmaaPFnExactAndAllx6
namespace Go.Proofs.Ytapgfamppnhnmaa.PFnExactAndAll
open Go.RowKit Go.Proofs.YtapgfamppnhnmaaW.PrintWords Go.Proofs.YtapgfamppnhnmaaW.PrintLast Go.Proofs.YtapgfamppnhnmaaW.PrintMore
attribute [local go_sem] max2_int min2_int max_two min_two max_three min_three max_four min_four   -- for this text's walks alone
set_option linter.unusedVariables false
set_option linter.unusedSimpArgs false

/-! ### impl_chain: function 37 -/
def impl_chain.l0 : Nat → List (S28) → Int → Int → Int → Int → Int → Int → ByteArray → ByteArray → List (S28) → Option (Int × Int × Int × Int × ByteArray × ByteArray × (List (S28)))
 | 0, _, _, _, _, _, _, _, _, _, _ => none
 | k + 1, x16, x17, x18, x271000, x271001, x271002, x271003, x271004, x271005, x271006 => if x18 < x17 then (if 0 ≤ x18 then (if x18 < (x16.length : Int) then ((impl_ownExp.f k ((rd_T28 x16 x18).f0) ((rd_T28 x16 x18).f1) ((rd_T28 x16 x18).f2.f0) ((rd_T28 x16 x18).f2.f1) ((rd_T28 x16 x18).f2.f2) ((rd_T28 x16 x18).f3) ((rd_T28 x16 x18).f4)).bind fun bt277 => (impl_chain.l0 k x16 x17 (wrap64 (x18 + 1)) 2 0 0 0 (⟨#[]⟩ : ByteArray) (⟨#[97, 110, 100]⟩ : ByteArray) (([(⟨x271000, x271001, (⟨x271002, x271003, x271004⟩ : S25), x271005, x271006⟩ : S28), (⟨bt277.1, bt277.2.1, (⟨bt277.2.2.1, bt277.2.2.2.1, bt277.2.2.2.2.1⟩ : S25), bt277.2.2.2.2.2.1, bt277.2.2.2.2.2.2⟩ : S28)] : List (S28))))) else (none)) else (none)) else (some (x271000, x271001, x271002, x271003, x271004, x271005, x271006))
def impl_chain.f (k : Nat) (l0 : List (S28)) : Option (Int × Int × Int × Int × ByteArray × ByteArray × (List (S28))) := if (l0.length : Int) = 0 then ((impl_flag.f true).bind fun bt248 => ((impl_valueExp.f bt248.1 bt248.2.1 bt248.2.2).bind fun bt251 => (some (bt251.1, bt251.2.1, bt251.2.2.1, bt251.2.2.2.1, bt251.2.2.2.2.1, bt251.2.2.2.2.2.1, bt251.2.2.2.2.2.2)))) else (if 0 < (l0.length : Int) then ((impl_ownExp.f k ((rd_T28 l0 0).f0) ((rd_T28 l0 0).f1) ((rd_T28 l0 0).f2.f0) ((rd_T28 l0 0).f2.f1) ((rd_T28 l0 0).f2.f2) ((rd_T28 l0 0).f3) ((rd_T28 l0 0).f4)).bind fun bt261 => (if 1 ≤ (l0.length : Int) then ((some (l0.drop 1 : List (S28))).bind fun y271 => (impl_chain.l0 k y271 (y271.length : Int) 0 bt261.1 bt261.2.1 bt261.2.2.1 bt261.2.2.2.1 bt261.2.2.2.2.1 bt261.2.2.2.2.2.1 bt261.2.2.2.2.2.2)) else (none))) else (none))
set_option maxHeartbeats 8000000 in
set_option maxRecDepth 100000 in
theorem impl_chain.calls (k : Nat) (A0 : Option Addr) (c0 : Nat) (l0 : List (S28)) (r1 : Int) (r2 : Int) (r3 : Int) (r4 : Int) (r5 : ByteArray) (r6 : ByteArray) (r7 : List (S28)) (w : World) (hr0 : Kd.C k28 w A0 l0.length l0) (hc0 : l0.length ≤ c0) (h : impl_chain.f k l0 = some (r1, r2, r3, r4, r5, r6, r7)) :
  Calls Try.prog 37 #[.slice A0 l0.length c0] w fun e w' => ∃ v6_ : Value, e = .returned (.agg #[.int .i64 r1, .int .i64 r2, .int .i64 r3, .int .i64 r4, .string r5, .string r6, v6_]) ∧ Kd.S k28 28 w' w.heap.size (fun k_ => (w.heap.size ≤ k_)) v6_ r7 ∧ Below w.heap.size w w' := by
 have hu28 := Try.underlying28
 have HR0 := Aside0.mk hr0
 have HC0 := Aside0.mk hc0
 clear hr0 hc0
 have HB := Aside0.mk (Below.refl w.heap.size w)
 have H : (if (l0.length : Int) = 0 then ((impl_flag.f true).bind fun bt248 => ((impl_valueExp.f bt248.1 bt248.2.1 bt248.2.2).bind fun bt251 => (some (bt251.1, bt251.2.1, bt251.2.2.1, bt251.2.2.2.1, bt251.2.2.2.2.1, bt251.2.2.2.2.2.1, bt251.2.2.2.2.2.2)))) else (if 0 < (l0.length : Int) then ((impl_ownExp.f k ((rd_T28 l0 0).f0) ((rd_T28 l0 0).f1) ((rd_T28 l0 0).f2.f0) ((rd_T28 l0 0).f2.f1) ((rd_T28 l0 0).f2.f2) ((rd_T28 l0 0).f3) ((rd_T28 l0 0).f4)).bind fun bt261 => (if 1 ≤ (l0.length : Int) then ((some (l0.drop 1 : List (S28))).bind fun y271 => (impl_chain.l0 k y271 (y271.length : Int) 0 bt261.1 bt261.2.1 bt261.2.2.1 bt261.2.2.2.1 bt261.2.2.2.2.1 bt261.2.2.2.2.2.1 bt261.2.2.2.2.2.2)) else (none))) else (none))) = some (r1, r2, r3, r4, r5, r6, r7) := h
 clear h
 by_cases c2 : (l0.length : Int) = 0
 ·rw [if_pos c2] at H
  have c2b0 : ((l0.length : Int) == 0) = true := beq_iff_eq.mpr c2
  have c2b1 : ((l0.length : Int) != 0) = false := bne_eq_false_iff_eq.mpr c2
  clear c2
  replace H := Option.bind_eq_some_iff.mp H
  obtain ⟨⟨t248, t249, t250⟩, A30, H⟩ := H
  replace H : ((impl_valueExp.f t248 t249 t250).bind fun bt251 => (some (bt251.1, bt251.2.1, bt251.2.2.1, bt251.2.2.2.1, bt251.2.2.2.2.1, bt251.2.2.2.2.2.1, bt251.2.2.2.2.2.2))) = some (r1, r2, r3, r4, r5, r6, r7) := H
  have A3 := Aside0.mk A30
  clear A30
  replace H := Option.bind_eq_some_iff.mp H
  obtain ⟨⟨t251, t252, t253, t254, t255, t256, t257⟩, A40, H⟩ := H
  replace H : (some (t251, t252, t253, t254, t255, t256, t257)) = some (r1, r2, r3, r4, r5, r6, r7) := H
  have A4 := Aside0.mk A40
  clear A40
  simp only [Option.some.injEq, Prod.mk.injEq] at H
  obtain ⟨rfl, rfl, rfl, rfl, rfl, rfl, rfl⟩ := H
  go_enter Try.func37, Try.ntmps37
  go_wp2_with (first | ((with_reducible refine gate_dst (N := 2) rfl ?_); refine bx_ 2 #[.int .i64 0, .int .i64 0, .int .i64 0, .int .i64 0, .string (⟨#[]⟩ : ByteArray), .string (⟨#[]⟩ : ByteArray), .slice none 0 0] 28 ?_; intro gb247 hg w5 hbox hb; have BK247 := Aside0.mk (hbox); have GW247 := gw_ hg; have GE247 := gw_ hg; replace HB := bs_ hb; clear hb hbox hg) | ((with_reducible refine gate_callee (f := 72) rfl ?_); refine gsL_ (some 9) Try.func72 #[.bool true] ?_; (with_reducible refine (impl_flag.calls true t248 t249 t250 _ A3.out).mono ?_); rintro e w6 ⟨rfl, hb⟩; refine ⟨_, rfl, ?_⟩; replace BK247 := bkb_ BK247 hb; replace HB := bs_ hb; (try clear hb); (try clear hb2); (try clear hk); (try clear hi)) | ((with_reducible refine gate_callee (f := 35) rfl ?_); refine gsL_ (some 10) Try.func35 #[.agg #[.int .i64 t248, .int .i64 t249, .string t250]] ?_; (with_reducible refine (impl_valueExp.calls t248 t249 t250 t251 t252 t253 t254 t255 t256 t257 _ A4.out).mono ?_); rintro e w7 ⟨v258, rfl, ho0, hb⟩; refine ⟨_, rfl, ?_⟩; have HO259 := Aside0.mk (Kd.S_lower (Kd.S_mono (ok' := fun k_ => (w.heap.size ≤ k_) ∧ k_ ≠ gb247) (Kd.S_bound ho0) (fun k_ hk_ => ⟨(Nat.le_trans (below_size bb_) hk_.2.1), (Kd.freshB (g := gb247) (o := .cells #[.int .i64 0, .int .i64 0, .int .i64 0, .int .i64 0, .string (⟨#[]⟩ : ByteArray), .string (⟨#[]⟩ : ByteArray), .slice none 0 0] 28 (0, 0)) (bkx_ BK247.out) k_ hk_.2.1)⟩)) (below_size bb_)); replace BK247 := bkb_ BK247 hb; replace HB := bs_ hb; (try clear hb); (try clear hb2); (try clear hk); (try clear hi); (try clear ho0); obtain ⟨hcz8_0, hcz8_1, hcz8_2, hcz8_3, hcz8_4, hcz8_5, hcz8_6, hfz8_0, hfz8_1, hfz8_2, hfz8_3, hfz8_4, hfz8_5, hfz8_6⟩ := b7_ BK247; obtain ⟨Ao9, co9, eo9⟩ := Kd.S_slice HO259.out; subst eo9))
  refine bodyPost_ret (results_cell_row rfl _ _ gb247 28 #[.int .i64 t251, .int .i64 t252, .int .i64 t253, .int .i64 t254, .string t255, .string t256, .slice Ao9 t257.length co9] (0, 0) _ rfl (bp7_ (bkx_ BK247.out)) Try.underlying28 rfl (by kernel_rfl)) rfl ?_
  exact ⟨_, by first | rfl | (simp [errW_none, errW_some] <;> rfl) | (simp [*, errW_none, errW_some] <;> rfl), by (with_reducible repeat (first | apply Kd.S_alloc | apply Kd.S_drewN | apply Kd.S_drew)); exact Kd.S_mono (Kd.S_far (p := ⟨gb247, 6, none⟩) (Kd.S_far (p := ⟨gb247, 5, none⟩) (Kd.S_far (p := ⟨gb247, 4, none⟩) (Kd.S_far (p := ⟨gb247, 3, none⟩) (Kd.S_far (p := ⟨gb247, 2, none⟩) (Kd.S_far (p := ⟨gb247, 1, none⟩) (Kd.S_far (p := ⟨gb247, 0, none⟩) (Kd.S_mono HO259.out (fun k_ hk => (⟨hk, hk.2⟩ : _ ∧ k_ ≠ gb247))) (fun _ hk => hk.2) (.int .i64 t251)) (fun _ hk => hk.2) (.int .i64 t252)) (fun _ hk => hk.2) (.int .i64 t253)) (fun _ hk => hk.2) (.int .i64 t254)) (fun _ hk => hk.2) (.string t255)) (fun _ hk => hk.2) (.string t256)) (fun _ hk => hk.2) (.slice Ao9 t257.length co9)) (fun _ hk => hk.1.1), by repeat (first | (with_reducible first | exact HB.out | apply below_alloc | apply pw_below_drewN | apply below_drew1 | refine below_set ?_ GE247.out) | exact HB.out)⟩
 ·rw [if_neg c2] at H
  have c2b0 : ((l0.length : Int) == 0) = false := beq_eq_false_iff_ne.mpr c2
  have c2b1 : ((l0.length : Int) != 0) = true := bne_iff_ne.mpr c2
  have c2b2 : ¬ (l0 = []) := fun h_ => c2 (by rw [h_]; rfl)
  by_cases c10 : 0 < (l0.length : Int)
  ·rw [if_pos c10] at H
   have c10b0 : decide (0 < (l0.length : Int)) = true := decide_eq_true c10
   have c10b1 : decide (0 < l0.length) = true := decide_eq_true (by omega)
   clear c10
   replace H := Option.bind_eq_some_iff.mp H
   obtain ⟨⟨t261, t262, t263, t264, t265, t266, t267⟩, A110, H⟩ := H
   replace H : (if 1 ≤ (l0.length : Int) then ((some (l0.drop 1 : List (S28))).bind fun y271 => (impl_chain.l0 k y271 (y271.length : Int) 0 t261 t262 t263 t264 t265 t266 t267)) else (none)) = some (r1, r2, r3, r4, r5, r6, r7) := H
   have A11 := Aside0.mk A110
   clear A110
   by_cases c12 : 1 ≤ (l0.length : Int)
   ·rw [if_pos c12] at H
    have c12b0 := eq_true c12
    have c12b1 : decide (1 ≤ (l0.length : Int)) = true := decide_eq_true c12
    clear c12
    obtain ⟨y271, hy271⟩ : ∃ y_ : List (S28), y_ = (l0.drop 1) := ⟨_, rfl⟩
    replace H : (impl_chain.l0 k y271 (y271.length : Int) 0 t261 t262 t263 t264 t265 t266 t267) = some (r1, r2, r3, r4, r5, r6, r7) := by first | (rw [hy271]; with_reducible exact H) | (have H2_ := (Option.bind_some _ _).symm.trans H; rw [hy271]; with_reducible exact H2_) | (have H2_ := (Option.bind_some _ _).symm.trans H; with_reducible exact H2_) | with_reducible exact H | (rw [hy271]; exact H) | exact H
    have Ny271 := Aside0.mk hy271
    clear hy271
    have H' := Aside0.mk H
    clear H
    go_enter Try.func37, Try.ntmps37
    go_wp2_with (first | ((with_reducible refine gate_dst (N := 2) rfl ?_); refine bx_ 2 #[.int .i64 0, .int .i64 0, .int .i64 0, .int .i64 0, .string (⟨#[]⟩ : ByteArray), .string (⟨#[]⟩ : ByteArray), .slice none 0 0] 28 ?_; intro gb247 hg w13 hbox hb; have BK247 := Aside0.mk (hbox); have GW247 := gw_ hg; have GE247 := gw_ hg; replace HB := bs_ hb; clear hb hbox hg; have p260 : 0 ≤ (0 : Int) := (by omega); have q260 : 0 < (l0.length : Int) := of_decide_eq_true (by first | (with_reducible assumption) | assumption); obtain ⟨ad260, A260_6, c260_6, e260, hx260_0, hx260_1, hx260_2, hx260_3, hx260_4, hx260_5, hx260_6, hl260_6, hi260_6⟩ := at_T28 HR0.out 0 p260 q260; cases e260; have qi260 : (0 < l0.length) = True := eq_true (by omega); (try rw [show ((0 : Int)).toNat = 0 from rfl] at hx260_0); (try rw [show 0 * 7 = 0 from rfl] at hx260_0); (try rw [Addr.add_zero'] at hx260_0); (try rw [show ((0 : Int)).toNat = 0 from rfl] at hx260_1); (try rw [show 0 * 7 = 0 from rfl] at hx260_1); (try rw [Addr.add_zero'] at hx260_1); (try rw [show ((0 : Int)).toNat = 0 from rfl] at hx260_2); (try rw [show 0 * 7 = 0 from rfl] at hx260_2); (try rw [Addr.add_zero'] at hx260_2); (try rw [show ((0 : Int)).toNat = 0 from rfl] at hx260_3); (try rw [show 0 * 7 = 0 from rfl] at hx260_3); (try rw [Addr.add_zero'] at hx260_3); (try rw [show ((0 : Int)).toNat = 0 from rfl] at hx260_4); (try rw [show 0 * 7 = 0 from rfl] at hx260_4); (try rw [Addr.add_zero'] at hx260_4); (try rw [show ((0 : Int)).toNat = 0 from rfl] at hx260_5); (try rw [show 0 * 7 = 0 from rfl] at hx260_5); (try rw [Addr.add_zero'] at hx260_5); (try rw [show ((0 : Int)).toNat = 0 from rfl] at hx260_6); (try rw [show 0 * 7 = 0 from rfl] at hx260_6); (try rw [Addr.add_zero'] at hx260_6); replace hx260_0 := hb_ HB hx260_0; replace hx260_1 := hb_ HB hx260_1; replace hx260_2 := hb_ HB hx260_2; replace hx260_3 := hb_ HB hx260_3; replace hx260_4 := hb_ HB hx260_4; replace hx260_5 := hb_ HB hx260_5; replace hx260_6 := hb_ HB hx260_6; have HR260_6 := Aside0.mk hi260_6; have HC260_6 := Aside0.mk hl260_6; clear hi260_6 hl260_6; replace p260 := eq_true p260; replace q260 := eq_true q260) | ((with_reducible refine gate_callee (f := 73) rfl ?_); refine gsL_ (some 14) Try.func73 #[.agg #[.int .i64 ((rd_T28 l0 0).f0), .int .i64 ((rd_T28 l0 0).f1), .int .i64 ((rd_T28 l0 0).f2.f0), .int .i64 ((rd_T28 l0 0).f2.f1), .string ((rd_T28 l0 0).f2.f2), .string ((rd_T28 l0 0).f3), .slice A260_6 ((rd_T28 l0 0).f4).length c260_6]] ?_; (with_reducible refine (impl_ownExp.calls k ((rd_T28 l0 0).f0) ((rd_T28 l0 0).f1) ((rd_T28 l0 0).f2.f0) ((rd_T28 l0 0).f2.f1) ((rd_T28 l0 0).f2.f2) ((rd_T28 l0 0).f3) _ _ ((rd_T28 l0 0).f4) t261 t262 t263 t264 t265 t266 t267 _ ?side1 ?side2 A11.out).mono ?_); (case side1 => exact ck_ (Kd.C_below HR260_6.out HB.out)); (case side2 => exact HC260_6.out); rintro e w14 ⟨v268, rfl, ho0, hb⟩; refine ⟨_, rfl, ?_⟩; have HO269 := Aside0.mk (Kd.S_lower (Kd.S_mono (ok' := fun k_ => (w.heap.size ≤ k_) ∧ k_ ≠ gb247) (Kd.S_bound ho0) (fun k_ hk_ => ⟨(Nat.le_trans (below_size bb_) hk_.2.1), (Kd.freshB (g := gb247) (o := .cells #[.int .i64 0, .int .i64 0, .int .i64 0, .int .i64 0, .string (⟨#[]⟩ : ByteArray), .string (⟨#[]⟩ : ByteArray), .slice none 0 0] 28 (0, 0)) (bkx_ BK247.out) k_ hk_.2.1)⟩)) (below_size bb_)); replace BK247 := bkb_ BK247 hb; replace HB := bs_ hb; (try clear hb); (try clear hb2); (try clear hk); (try clear hi); (try clear ho0)) | ((with_reducible refine gate_dst (N := 3) rfl ?_); refine bx_ 3 #[.int .i64 0, .int .i64 0, .int .i64 0, .int .i64 0, .string (⟨#[]⟩ : ByteArray), .string (⟨#[]⟩ : ByteArray), .slice none 0 0] 28 ?_; intro gb270 hg w15 hbox hb; have BK270 := Aside0.mk (hbox); have GW270 := gw_ hg; have GE270 := gw_ hg; have NB247_270 := nl_ hg BK247; have NB270_247 := ng_ hg BK247; replace HO269 := Aside0.mk (Kd.S_below (Kd.S_elderB (by (with_reducible repeat (first | apply Kd.S_alloc | apply Kd.S_drewN | apply Kd.S_drew)); exact HO269.out) gb270 (Nat.le_of_eq hg.symm)) hb); replace BK247 := bkb_ BK247 hb; replace HB := bs_ hb; clear hb hbox hg; have hnb16 := NB270_247.out; have hnc16 := NB247_270.out; obtain ⟨hcz17_0, hcz17_1, hcz17_2, hcz17_3, hcz17_4, hcz17_5, hcz17_6, hfz17_0, hfz17_1, hfz17_2, hfz17_3, hfz17_4, hfz17_5, hfz17_6⟩ := b7_ BK270; obtain ⟨Ao18, co18, eo18⟩ := Kd.S_slice HO269.out; subst eo18) | ((with_reducible refine gate_store (t := 28) (p := 3) rfl ?_); refine store_event (t := 28) (p := 3) (v := ?vo_w19) (w1 := (((((((w15.setCell ⟨gb270, 0, none⟩ (.int .i64 t261)).setCell ⟨gb270, 1, none⟩ (.int .i64 t262)).setCell ⟨gb270, 2, none⟩ (.int .i64 t263)).setCell ⟨gb270, 3, none⟩ (.int .i64 t264)).setCell ⟨gb270, 4, none⟩ (.string t265)).setCell ⟨gb270, 5, none⟩ (.string t266)).setCell ⟨gb270, 6, none⟩ (.slice Ao18 t267.length co18))) ?hg ?ho ?hn ?hr ?_; (case ho => rfl); (case hg => rfl); (case hn => rfl); (case hr => first | (go_simp; done) | (go_simp; rfl)); intro w19 hw; have n0_ : Aside0 (Kd.S k28 28 w19 w.heap.size (fun k_ => (w.heap.size ≤ k_) ∧ k_ ≠ gb247 ∧ k_ ≠ gb270) (.slice Ao18 t267.length co18) t267) := ⟨(by rw [hw]; exact (by (with_reducible repeat (first | apply Kd.S_alloc | apply Kd.S_drewN | apply Kd.S_drew)); exact Kd.S_mono (Kd.S_far (p := ⟨gb270, 6, none⟩) (Kd.S_far (p := ⟨gb270, 5, none⟩) (Kd.S_far (p := ⟨gb270, 4, none⟩) (Kd.S_far (p := ⟨gb270, 3, none⟩) (Kd.S_far (p := ⟨gb270, 2, none⟩) (Kd.S_far (p := ⟨gb270, 1, none⟩) (Kd.S_far (p := ⟨gb270, 0, none⟩) (Kd.S_mono HO269.out (fun k_ hk => (⟨hk, hk.2⟩ : _ ∧ k_ ≠ gb270))) (fun _ hk => hk.2) (.int .i64 t261)) (fun _ hk => hk.2) (.int .i64 t262)) (fun _ hk => hk.2) (.int .i64 t263)) (fun _ hk => hk.2) (.int .i64 t264)) (fun _ hk => hk.2) (.string t265)) (fun _ hk => hk.2) (.string t266)) (fun _ hk => hk.2) (.slice Ao18 t267.length co18)) (fun _ hk => ⟨hk.1.1.1, ⟨hk.1.1.2, hk.1.2⟩⟩)))⟩; have n1_ : Aside0 (w19.heap[gb247]? = some (.cells #[.int .i64 0, .int .i64 0, .int .i64 0, .int .i64 0, .string (⟨#[]⟩ : ByteArray), .string (⟨#[]⟩ : ByteArray), .slice none 0 0] 28 (0, 0))) := ⟨(by rw [hw]; exact (bf7_ NB247_270 (bkx_ BK247.out)))⟩; have n2_ : Aside0 (w19.heap[gb270]? = some (.cells #[.int .i64 t261, .int .i64 t262, .int .i64 t263, .int .i64 t264, .string t265, .string t266, .slice Ao18 t267.length co18] 28 (0, 0))) := ⟨(by rw [hw]; exact (bp7_ (bkx_ BK270.out)))⟩; have n3_ : Aside0 (Below w.heap.size w w19) := ⟨(by rw [hw]; exact bb_)⟩; clear hw; clear HO269; clear BK247; clear BK270; clear HB; have HO269 := n0_; have BK247 := n1_; have BK270 := n2_; have HB := n3_; clear n0_ n1_ n2_ n3_; have q20 : (1 : Int) ≤ ((l0.length : Int) : Int) := of_decide_eq_true (by first | (with_reducible assumption) | assumption); obtain ⟨i020, hi020, _, hsz20, _⟩ := info_parts info28; have hroom20 : l0.length ≤ c0 := HC0.out; have hC20 : Kd.C k28 _ (some ad260) l0.length l0 := HR0.out; have hcut20 := cut_from (P := Try.prog) 26 28 .i64 Try.underlying26 hi020 7 hsz20 (some ad260) l0.length c0 1 (by omega) q20; have hr20 := Kd.C_drop (m := (1 : Int).toNat) (c := c0) hC20 (by omega) hroom20; obtain ⟨A20, hA20⟩ : ∃ A1, A1 = (if c0 = (1 : Int).toNat then (some ad260) else ((some ad260) : Option Addr).map (·.add ((1 : Int).toNat * 7))) := ⟨_, rfl⟩; obtain ⟨c20, hc20⟩ : ∃ c1, c1 = c0 - (1 : Int).toNat := ⟨_, rfl⟩; have hy20 : y271.length = l0.length - (1 : Int).toNat := (by rw [Ny271.out, List.length_drop] <;> omega); rw [show (l0).drop (1 : Int).toNat = y271 from Ny271.out.symm] at hr20; replace hr20 : Kd.C k28 _ A20 y271.length y271 := (by rw [hA20]; exact hr20); rw [← hy20, ← hA20, ← hc20] at hcut20; have HR274 := Aside0.mk hr20; have HC274 := Aside0.mk (show y271.length ≤ c20 from by rw [hy20, hc20]; exact Nat.sub_le_sub_right hroom20 _); clear hr20 hC20 hroom20 hi020 hsz20 hc20; have KY20 := Aside0.mk hy20; have KA20 := Aside0.mk hA20; clear hy20 hA20; replace q20 := eq_true q20))
    go_loopg [18] k (fun kq v18 w' => ∃ (x18_1 : Int) (x271000_1 : Int) (x271001_1 : Int) (x271002_1 : Int) (x271003_1 : Int) (x271004_1 : ByteArray) (x271005_1 : ByteArray) (x271006_1 : List (S28)) (u271006 : Value), v18 = .int .i64 x18_1 ∧ Aside0 (impl_chain.l0 kq y271 (y271.length : Int) x18_1 x271000_1 x271001_1 x271002_1 x271003_1 x271004_1 x271005_1 x271006_1 = some (r1, r2, r3, r4, r5, r6, r7)) ∧ Aside0 (kq ≤ k) ∧ Aside0 (Kd.S k28 28 w' w.heap.size (fun k_ => (w.heap.size ≤ k_) ∧ k_ ≠ gb247 ∧ k_ ≠ gb270) u271006 x271006_1) ∧ Aside0 (w'.heap[gb247]? = some (.cells #[.int .i64 0, .int .i64 0, .int .i64 0, .int .i64 0, .string (⟨#[]⟩ : ByteArray), .string (⟨#[]⟩ : ByteArray), (.slice none 0 0)] 28 (0, 0))) ∧ Aside0 (w'.heap[gb270]? = some (.cells #[.int .i64 x271000_1, .int .i64 x271001_1, .int .i64 x271002_1, .int .i64 x271003_1, .string x271004_1, .string x271005_1, u271006] 28 (0, 0))) ∧ Aside0 (Below w.heap.size w w'))
    case atStart => exact ⟨(0), (t261), (t262), (t263), (t264), (t265), (t266), (t267), (.slice Ao18 t267.length co18), rs_, H', ⟨Nat.le_refl _⟩, ⟨by (with_reducible repeat (first | apply Kd.S_alloc | apply Kd.S_drewN | apply Kd.S_drew)); exact HO269.out⟩, ⟨bkx_ BK247.out⟩, ⟨bkx_ BK270.out⟩, ⟨bb_⟩⟩
    case round =>
     clear H'
     try clear c1
     try clear c2
     try clear c2b0
     try clear c2b1
     try clear c2b2
     try clear p2
     try clear q2
     try clear hx2
     try clear qi2
     try clear c3
     try clear c7
     try clear c10
     try clear c10b0
     try clear c10b1
     try clear c12
     try clear c12b0
     try clear c12b1
     try clear c16
     try clear c20
     try clear q20
     try clear hcz17_0
     try clear hcz17_1
     try clear hcz17_2
     try clear hcz17_3
     try clear hcz17_4
     try clear hcz17_5
     try clear hcz17_6
     try clear hcz8_0
     try clear hcz8_1
     try clear hcz8_2
     try clear hcz8_3
     try clear hcz8_4
     try clear hcz8_5
     try clear hcz8_6
     try clear hfz17_0
     try clear hfz17_1
     try clear hfz17_2
     try clear hfz17_3
     try clear hfz17_4
     try clear hfz17_5
     try clear hfz17_6
     try clear hfz8_0
     try clear hfz8_1
     try clear hfz8_2
     try clear hfz8_3
     try clear hfz8_4
     try clear hfz8_5
     try clear hfz8_6
     try clear hx260_0
     try clear hx260_1
     try clear hx260_2
     try clear hx260_3
     try clear hx260_4
     try clear hx260_5
     try clear hx260_6
     try clear p260
     try clear q20
     try clear q260
     obtain ⟨x18_1, x271000_1, x271001_1, x271002_1, x271003_1, x271004_1, x271005_1, x271006_1, u271006, rfl, HA, HK1, HO_271006, BK247, BK270, HB⟩ := hrel
     cases gk with
     | zero => exact absurd HA.out (by simp [impl_chain.l0])
     | succ k1 =>
      have H := HA.out
      clear HA
      simp only [impl_chain.l0] at H
      by_cases c21 : x18_1 < (y271.length : Int)
      ·rw [if_pos c21] at H
       have c21b0 : decide (x18_1 < (y271.length : Int)) = true := decide_eq_true c21
       clear c21
       by_cases c22 : 0 ≤ x18_1
       ·rw [if_pos c22] at H
        have c22b0 : decide (0 ≤ x18_1) = true := decide_eq_true c22
        clear c22
        by_cases c23 : x18_1 < (y271.length : Int)
        ·rw [if_pos c23] at H
         have c23b0 : decide (x18_1 < (y271.length : Int)) = true := decide_eq_true c23
         clear c23
         replace H := Option.bind_eq_some_iff.mp H
         obtain ⟨⟨t277, t278, t279, t280, t281, t282, t283⟩, A240, H⟩ := H
         replace H : (impl_chain.l0 k1 y271 (y271.length : Int) (wrap64 (x18_1 + 1)) 2 0 0 0 (⟨#[]⟩ : ByteArray) (⟨#[97, 110, 100]⟩ : ByteArray) (([(⟨x271000_1, x271001_1, (⟨x271002_1, x271003_1, x271004_1⟩ : S25), x271005_1, x271006_1⟩ : S28), (⟨t277, t278, (⟨t279, t280, t281⟩ : S25), t282, t283⟩ : S28)] : List (S28)))) = some (r1, r2, r3, r4, r5, r6, r7) := H
         have A24 := Aside0.mk A240
         clear A240
         obtain ⟨y286, hy286⟩ : ∃ y_ : List (S28), y_ = (([(⟨x271000_1, x271001_1, (⟨x271002_1, x271003_1, x271004_1⟩ : S25), x271005_1, x271006_1⟩ : S28), (⟨t277, t278, (⟨t279, t280, t281⟩ : S25), t282, t283⟩ : S28)] : List (S28))) := ⟨_, rfl⟩
         replace H : (impl_chain.l0 k1 y271 (y271.length : Int) (wrap64 (x18_1 + 1)) 2 0 0 0 (⟨#[]⟩ : ByteArray) (⟨#[97, 110, 100]⟩ : ByteArray) y286) = some (r1, r2, r3, r4, r5, r6, r7) := by first | (rw [hy286]; with_reducible exact H) | (have H2_ := (Option.bind_some _ _).symm.trans H; rw [hy286]; with_reducible exact H2_) | (have H2_ := (Option.bind_some _ _).symm.trans H; with_reducible exact H2_) | with_reducible exact H | (rw [hy286]; exact H) | exact H
         have Ny286 := Aside0.mk hy286
         clear hy286
         have H' := Aside0.mk H
         clear H
         have p275 : 0 ≤ (x18_1 : Int) := of_decide_eq_true (by first | (with_reducible assumption) | assumption)
         have q275 : x18_1 < (y271.length : Int) := of_decide_eq_true (by first | (with_reducible assumption) | assumption)
         obtain ⟨ad275, A275_6, c275_6, e275, hx275_0, hx275_1, hx275_2, hx275_3, hx275_4, hx275_5, hx275_6, hl275_6, hi275_6⟩ := at_T28 HR274.out x18_1 p275 q275
         cases e275
         replace hx275_0 := hb_ HB hx275_0
         replace hx275_1 := hb_ HB hx275_1
         replace hx275_2 := hb_ HB hx275_2
         replace hx275_3 := hb_ HB hx275_3
         replace hx275_4 := hb_ HB hx275_4
         replace hx275_5 := hb_ HB hx275_5
         replace hx275_6 := hb_ HB hx275_6
         have HR275_6 := Aside0.mk hi275_6
         have HC275_6 := Aside0.mk hl275_6
         clear hi275_6 hl275_6
         replace p275 := eq_true p275
         replace q275 := eq_true q275
         try go_wp2_with (first | ((with_reducible refine gate_dst (N := 5) rfl ?_); refine bx_ 5 #[.int .i64 0, .int .i64 0, .int .i64 0, .int .i64 0, .string (⟨#[]⟩ : ByteArray), .string (⟨#[]⟩ : ByteArray), .slice none 0 0] 28 ?_; intro gb276 hg w25 hbox hb; have BK276 := Aside0.mk (hbox); have GW276 := gw_ hg; have GE276 := gw_ hg; have NB247_276 := nl_ hg BK247; have NB276_247 := ng_ hg BK247; have NB270_276 := nl_ hg BK270; have NB276_270 := ng_ hg BK270; replace HO_271006 := Aside0.mk (Kd.S_below (Kd.S_elderB (by (with_reducible repeat (first | apply Kd.S_alloc | apply Kd.S_drewN | apply Kd.S_drew)); exact HO_271006.out) gb276 (Nat.le_of_eq hg.symm)) hb); replace BK247 := bkb_ BK247 hb; replace BK270 := bkb_ BK270 hb; replace HB := bs_ hb; clear hb hbox hg; have hnb26 := NB276_247.out; have hnc26 := NB247_276.out; have hnb27 := NB276_270.out; have hnc27 := NB270_276.out; obtain ⟨hcz28_0, hcz28_1, hcz28_2, hcz28_3, hcz28_4, hcz28_5, hcz28_6, hfz28_0, hfz28_1, hfz28_2, hfz28_3, hfz28_4, hfz28_5, hfz28_6⟩ := b7_ BK276))
         have n0_ : Aside0 (Kd.S k28 28 (((((((w25.setCell ⟨gb276, 0, none⟩ (.int .i64 ((rd_T28 y271 x18_1).f0))).setCell ⟨gb276, 1, none⟩ (.int .i64 ((rd_T28 y271 x18_1).f1))).setCell ⟨gb276, 2, none⟩ (.int .i64 ((rd_T28 y271 x18_1).f2.f0))).setCell ⟨gb276, 3, none⟩ (.int .i64 ((rd_T28 y271 x18_1).f2.f1))).setCell ⟨gb276, 4, none⟩ (.string ((rd_T28 y271 x18_1).f2.f2))).setCell ⟨gb276, 5, none⟩ (.string ((rd_T28 y271 x18_1).f3))).setCell ⟨gb276, 6, none⟩ (.slice A275_6 ((rd_T28 y271 x18_1).f4).length c275_6)) w.heap.size (fun k_ => (w.heap.size ≤ k_) ∧ k_ ≠ gb247 ∧ k_ ≠ gb270 ∧ k_ ≠ gb276) u271006 x271006_1) := ⟨by (with_reducible repeat (first | apply Kd.S_alloc | apply Kd.S_drewN | apply Kd.S_drew)); exact Kd.S_mono (Kd.S_far (p := ⟨gb276, 6, none⟩) (Kd.S_far (p := ⟨gb276, 5, none⟩) (Kd.S_far (p := ⟨gb276, 4, none⟩) (Kd.S_far (p := ⟨gb276, 3, none⟩) (Kd.S_far (p := ⟨gb276, 2, none⟩) (Kd.S_far (p := ⟨gb276, 1, none⟩) (Kd.S_far (p := ⟨gb276, 0, none⟩) (Kd.S_mono HO_271006.out (fun k_ hk => (⟨hk, hk.2⟩ : _ ∧ k_ ≠ gb276))) (fun _ hk => hk.2) (.int .i64 ((rd_T28 y271 x18_1).f0))) (fun _ hk => hk.2) (.int .i64 ((rd_T28 y271 x18_1).f1))) (fun _ hk => hk.2) (.int .i64 ((rd_T28 y271 x18_1).f2.f0))) (fun _ hk => hk.2) (.int .i64 ((rd_T28 y271 x18_1).f2.f1))) (fun _ hk => hk.2) (.string ((rd_T28 y271 x18_1).f2.f2))) (fun _ hk => hk.2) (.string ((rd_T28 y271 x18_1).f3))) (fun _ hk => hk.2) (.slice A275_6 ((rd_T28 y271 x18_1).f4).length c275_6)) (fun _ hk => ⟨hk.1.1.1, ⟨hk.1.1.2.1, ⟨hk.1.1.2.2, hk.1.2⟩⟩⟩)⟩
         have n1_ : Aside0 ((((((((w25.setCell ⟨gb276, 0, none⟩ (.int .i64 ((rd_T28 y271 x18_1).f0))).setCell ⟨gb276, 1, none⟩ (.int .i64 ((rd_T28 y271 x18_1).f1))).setCell ⟨gb276, 2, none⟩ (.int .i64 ((rd_T28 y271 x18_1).f2.f0))).setCell ⟨gb276, 3, none⟩ (.int .i64 ((rd_T28 y271 x18_1).f2.f1))).setCell ⟨gb276, 4, none⟩ (.string ((rd_T28 y271 x18_1).f2.f2))).setCell ⟨gb276, 5, none⟩ (.string ((rd_T28 y271 x18_1).f3))).setCell ⟨gb276, 6, none⟩ (.slice A275_6 ((rd_T28 y271 x18_1).f4).length c275_6)).heap[gb247]? = some (.cells #[.int .i64 0, .int .i64 0, .int .i64 0, .int .i64 0, .string (⟨#[]⟩ : ByteArray), .string (⟨#[]⟩ : ByteArray), .slice none 0 0] 28 (0, 0))) := ⟨(bf7_ NB247_276 (bkx_ BK247.out))⟩
         have n2_ : Aside0 ((((((((w25.setCell ⟨gb276, 0, none⟩ (.int .i64 ((rd_T28 y271 x18_1).f0))).setCell ⟨gb276, 1, none⟩ (.int .i64 ((rd_T28 y271 x18_1).f1))).setCell ⟨gb276, 2, none⟩ (.int .i64 ((rd_T28 y271 x18_1).f2.f0))).setCell ⟨gb276, 3, none⟩ (.int .i64 ((rd_T28 y271 x18_1).f2.f1))).setCell ⟨gb276, 4, none⟩ (.string ((rd_T28 y271 x18_1).f2.f2))).setCell ⟨gb276, 5, none⟩ (.string ((rd_T28 y271 x18_1).f3))).setCell ⟨gb276, 6, none⟩ (.slice A275_6 ((rd_T28 y271 x18_1).f4).length c275_6)).heap[gb270]? = some (.cells #[.int .i64 x271000_1, .int .i64 x271001_1, .int .i64 x271002_1, .int .i64 x271003_1, .string x271004_1, .string x271005_1, u271006] 28 (0, 0))) := ⟨(bf7_ NB270_276 (bkx_ BK270.out))⟩
         have n3_ : Aside0 ((((((((w25.setCell ⟨gb276, 0, none⟩ (.int .i64 ((rd_T28 y271 x18_1).f0))).setCell ⟨gb276, 1, none⟩ (.int .i64 ((rd_T28 y271 x18_1).f1))).setCell ⟨gb276, 2, none⟩ (.int .i64 ((rd_T28 y271 x18_1).f2.f0))).setCell ⟨gb276, 3, none⟩ (.int .i64 ((rd_T28 y271 x18_1).f2.f1))).setCell ⟨gb276, 4, none⟩ (.string ((rd_T28 y271 x18_1).f2.f2))).setCell ⟨gb276, 5, none⟩ (.string ((rd_T28 y271 x18_1).f3))).setCell ⟨gb276, 6, none⟩ (.slice A275_6 ((rd_T28 y271 x18_1).f4).length c275_6)).heap[gb276]? = some (.cells #[.int .i64 ((rd_T28 y271 x18_1).f0), .int .i64 ((rd_T28 y271 x18_1).f1), .int .i64 ((rd_T28 y271 x18_1).f2.f0), .int .i64 ((rd_T28 y271 x18_1).f2.f1), .string ((rd_T28 y271 x18_1).f2.f2), .string ((rd_T28 y271 x18_1).f3), .slice A275_6 ((rd_T28 y271 x18_1).f4).length c275_6] 28 (0, 0))) := ⟨(bp7_ (bkx_ BK276.out))⟩
         have n4_ : Aside0 (Below w.heap.size w (((((((w25.setCell ⟨gb276, 0, none⟩ (.int .i64 ((rd_T28 y271 x18_1).f0))).setCell ⟨gb276, 1, none⟩ (.int .i64 ((rd_T28 y271 x18_1).f1))).setCell ⟨gb276, 2, none⟩ (.int .i64 ((rd_T28 y271 x18_1).f2.f0))).setCell ⟨gb276, 3, none⟩ (.int .i64 ((rd_T28 y271 x18_1).f2.f1))).setCell ⟨gb276, 4, none⟩ (.string ((rd_T28 y271 x18_1).f2.f2))).setCell ⟨gb276, 5, none⟩ (.string ((rd_T28 y271 x18_1).f3))).setCell ⟨gb276, 6, none⟩ (.slice A275_6 ((rd_T28 y271 x18_1).f4).length c275_6))) := ⟨bb_⟩
         (try clear HO_271006)
         (try clear BK247)
         (try clear BK270)
         (try clear BK276)
         (try clear HB)
         generalize (((((((w25.setCell ⟨gb276, 0, none⟩ (.int .i64 ((rd_T28 y271 x18_1).f0))).setCell ⟨gb276, 1, none⟩ (.int .i64 ((rd_T28 y271 x18_1).f1))).setCell ⟨gb276, 2, none⟩ (.int .i64 ((rd_T28 y271 x18_1).f2.f0))).setCell ⟨gb276, 3, none⟩ (.int .i64 ((rd_T28 y271 x18_1).f2.f1))).setCell ⟨gb276, 4, none⟩ (.string ((rd_T28 y271 x18_1).f2.f2))).setCell ⟨gb276, 5, none⟩ (.string ((rd_T28 y271 x18_1).f3))).setCell ⟨gb276, 6, none⟩ (.slice A275_6 ((rd_T28 y271 x18_1).f4).length c275_6)) = w29 at n0_ n1_ n2_ n3_ n4_ ⊢
         have HO_271006 := n0_
         have BK247 := n1_
         have BK270 := n2_
         have BK276 := n3_
         have HB := n4_
         clear n0_ n1_ n2_ n3_ n4_
         replace HO_271006 := Aside0.mk (Kd.S_drew HO_271006.out)
         replace BK247 := Aside0.mk (blk_drew BK247.out)
         replace BK270 := Aside0.mk (blk_drew BK270.out)
         replace BK276 := Aside0.mk (blk_drew BK276.out)
         replace HB := Aside0.mk (below_drew1 HB.out)
         refine start_ (n := 6) (S := fun w' => w'.cell? ⟨gb270, 0, none⟩ = some (.int .i64 x271000_1) ∧ w'.cell? ⟨gb270, 1, none⟩ = some (.int .i64 x271001_1) ∧ w'.cell? ⟨gb270, 2, none⟩ = some (.int .i64 x271002_1) ∧ w'.cell? ⟨gb270, 3, none⟩ = some (.int .i64 x271003_1) ∧ w'.cell? ⟨gb270, 4, none⟩ = some (.string x271004_1) ∧ w'.cell? ⟨gb270, 5, none⟩ = some (.string x271005_1) ∧ w'.cell? ⟨gb270, 6, none⟩ = some (u271006) ∧ w'.cell? ⟨gb276, 0, none⟩ = some (.int .i64 ((rd_T28 y271 x18_1).f0)) ∧ w'.cell? ⟨gb276, 1, none⟩ = some (.int .i64 ((rd_T28 y271 x18_1).f1)) ∧ w'.cell? ⟨gb276, 2, none⟩ = some (.int .i64 ((rd_T28 y271 x18_1).f2.f0)) ∧ w'.cell? ⟨gb276, 3, none⟩ = some (.int .i64 ((rd_T28 y271 x18_1).f2.f1)) ∧ w'.cell? ⟨gb276, 4, none⟩ = some (.string ((rd_T28 y271 x18_1).f2.f2)) ∧ w'.cell? ⟨gb276, 5, none⟩ = some (.string ((rd_T28 y271 x18_1).f3)) ∧ w'.cell? ⟨gb276, 6, none⟩ = some (.slice A275_6 ((rd_T28 y271 x18_1).f4).length c275_6)) (ds := [5]) (tf 0 6) (by kernel_rfl) rfl rfl ⟨bc_ BK270 0, bc_ BK270 1, bc_ BK270 2, bc_ BK270 3, bc_ BK270 4, bc_ BK270 5, bc_ BK270 6, bc_ BK276 0, bc_ BK276 1, bc_ BK276 2, bc_ BK276 3, bc_ BK276 4, bc_ BK276 5, bc_ BK276 6⟩ (fun hHeld => ?_)
         generalize w29.drew = w30 at HO_271006 BK247 BK270 BK276 HB hHeld ⊢
         refine take_ (i := 0) (N := some 22) (v := ?_) (a' := ?_) (tf 1 5) rfl rfl (by kernel_rfl) (fun _ _ _ h => h) (Or.inl ⟨by rfl, ?_⟩) hHeld ?_ ?_
         rotate_left
         ·rintro w' ⟨s0, s1, s2, s3, s4, s5, s6, s7, s8, s9, s10, s11, s12, s13⟩
          go_simp
          with_reducible rfl
         rotate_left
         ·simp only [Act.put, List.setIfInBounds_toArray, List.set_cons_zero, List.set_cons_succ, i64_w, i32_w]
          rfl
         refine take_ (i := 1) (N := some 23) (v := ?_) (a' := ?_) (tf 2 4) rfl rfl (by kernel_rfl) (fun _ _ _ h => h) (Or.inl ⟨by rfl, ?_⟩) hHeld ?_ ?_
         rotate_left
         ·rintro w' ⟨s0, s1, s2, s3, s4, s5, s6, s7, s8, s9, s10, s11, s12, s13⟩
          go_simp
          with_reducible rfl
         rotate_left
         ·simp only [Act.put, List.setIfInBounds_toArray, List.set_cons_zero, List.set_cons_succ, i64_w, i32_w]
          rfl
         refine one_ (i := 2) (N := some 24) (tf 3 3) rfl rfl (by kernel_rfl) (by decide) (fun K hK => ?_)
         refine gs_ Try.func73 #[.agg #[.int .i64 ((rd_T28 y271 x18_1).f0), .int .i64 ((rd_T28 y271 x18_1).f1), .int .i64 ((rd_T28 y271 x18_1).f2.f0), .int .i64 ((rd_T28 y271 x18_1).f2.f1), .string ((rd_T28 y271 x18_1).f2.f2), .string ((rd_T28 y271 x18_1).f3), .slice A275_6 ((rd_T28 y271 x18_1).f4).length c275_6]] ?_
         with_reducible refine (impl_ownExp.calls k1 ((rd_T28 y271 x18_1).f0) ((rd_T28 y271 x18_1).f1) ((rd_T28 y271 x18_1).f2.f0) ((rd_T28 y271 x18_1).f2.f1) ((rd_T28 y271 x18_1).f2.f2) ((rd_T28 y271 x18_1).f3) _ _ ((rd_T28 y271 x18_1).f4) t277 t278 t279 t280 t281 t282 t283 _ ?side1 ?side2 A24.out).mono ?_
         (case side1 => exact ck_ (Kd.C_below HR275_6.out HB.out))
         (case side2 => exact HC275_6.out)
         rintro e w31 ⟨v284, rfl, ho0, hb⟩
         refine ⟨_, rfl, ?_⟩
         obtain ⟨nA_, hn_, HN_, HE_⟩ := Kd.S_after_call ho0 (sk_ HO_271006.out) hb (below_size bb_)
         replace HN_ := Aside0.mk HN_
         replace HE_ := Aside0.mk HE_
         have hwA_ : Aside0 (w.heap.size ≤ nA_) := ⟨by rw [hn_]; exact below_size bb_⟩
         have hlgb247_ : Aside0 (gb247 < nA_) := ⟨by rw [hn_]; exact blk_lt (bkx_ BK247.out)⟩
         have hlgb270_ : Aside0 (gb270 < nA_) := ⟨by rw [hn_]; exact blk_lt (bkx_ BK270.out)⟩
         have hlgb276_ : Aside0 (gb276 < nA_) := ⟨by rw [hn_]; exact blk_lt (bkx_ BK276.out)⟩
         clear hn_
         have HO285 := Aside0.mk (Kd.S_lower (Kd.S_mono (ok' := fun k_ => (w.heap.size ≤ k_) ∧ some k_ ≠ (u271006 : Value).ownBlock ∧ k_ ≠ gb247 ∧ k_ ≠ gb270 ∧ k_ ≠ gb276) (Kd.S_bound ho0) (fun k_ hk_ => ⟨(Nat.le_trans (below_size bb_) hk_.2.1), (Kd.fresh' (Kd.S_lt (by (with_reducible repeat (first | apply Kd.S_alloc | apply Kd.S_drewN | apply Kd.S_drew)); exact HO_271006.out)) k_ hk_.2.1), (Kd.freshB (g := gb247) (o := .cells #[.int .i64 0, .int .i64 0, .int .i64 0, .int .i64 0, .string (⟨#[]⟩ : ByteArray), .string (⟨#[]⟩ : ByteArray), .slice none 0 0] 28 (0, 0)) (bkx_ BK247.out) k_ hk_.2.1), (Kd.freshB (g := gb270) (o := .cells #[.int .i64 x271000_1, .int .i64 x271001_1, .int .i64 x271002_1, .int .i64 x271003_1, .string x271004_1, .string x271005_1, u271006] 28 (0, 0)) (bkx_ BK270.out) k_ hk_.2.1), (Kd.freshB (g := gb276) (o := .cells #[.int .i64 ((rd_T28 y271 x18_1).f0), .int .i64 ((rd_T28 y271 x18_1).f1), .int .i64 ((rd_T28 y271 x18_1).f2.f0), .int .i64 ((rd_T28 y271 x18_1).f2.f1), .string ((rd_T28 y271 x18_1).f2.f2), .string ((rd_T28 y271 x18_1).f3), .slice A275_6 ((rd_T28 y271 x18_1).f4).length c275_6] 28 (0, 0)) (bkx_ BK276.out) k_ hk_.2.1)⟩)) (below_size bb_))
         replace HO_271006 := Aside0.mk (Kd.S_elder' (by (with_reducible repeat (first | apply Kd.S_alloc | apply Kd.S_drewN | apply Kd.S_drew)); exact HO_271006.out) (Kd.S_base ho0) hb)
         replace BK247 := bkb_ BK247 hb
         replace BK270 := bkb_ BK270 hb
         replace BK276 := bkb_ BK276 hb
         replace HB := bs_ hb
         (try clear hb)
         (try clear hb2)
         (try clear hk)
         (try clear hi)
         (try clear ho0)
         obtain ⟨Ao32, co32, eo32⟩ := Kd.S_slice HO_271006.out
         (first | subst eo32 | (injection eo32 with f1_ f2_ f3_; have f4_ := f1_.symm; have f5_ := f3_.symm; clear f1_ f2_ f3_; subst f4_; subst f5_))
         obtain ⟨Ao33, co33, eo33⟩ := Kd.S_slice HO285.out
         (first | subst eo33 | (injection eo33 with f1_ f2_ f3_; have f4_ := f1_.symm; have f5_ := f3_.symm; clear f1_ f2_ f3_; subst f4_; subst f5_))
         refine hK.out _ _ ⟨bc_ BK270 0, bc_ BK270 1, bc_ BK270 2, bc_ BK270 3, bc_ BK270 4, bc_ BK270 5, bc_ BK270 6, bc_ BK276 0, bc_ BK276 1, bc_ BK276 2, bc_ BK276 3, bc_ BK276 4, bc_ BK276 5, bc_ BK276 6⟩ (fun hHeld => ?_)
         clear hK K
         refine nm_ ?_
         refine one_ (i := 3) (N := some 25) (tf 4 2) rfl rfl (by kernel_rfl) (by decide) (fun K hK => ?_)
         refine Kd.S_two_step k28 w.heap.size 28 ?hg (N' := 25) ?hd (x0 := (⟨x271000_1, x271001_1, (⟨x271002_1, x271003_1, x271004_1⟩ : S25), x271005_1, x271006_1⟩ : S28)) (x1 := (⟨t277, t278, (⟨t279, t280, t281⟩ : S25), t282, t283⟩ : S28)) (c0 := [.int .i64 x271000_1, .int .i64 x271001_1, .int .i64 x271002_1, .int .i64 x271003_1, .string x271004_1, .string x271005_1, .slice Ao32 x271006_1.length co32]) (c1 := [.int .i64 t277, .int .i64 t278, .int .i64 t279, .int .i64 t280, .string t281, .string t282, .slice Ao33 t283.length co33]) rfl (ok := (fun k_ => (w.heap.size ≤ k_) ∧ k_ ≠ gb247 ∧ k_ ≠ gb270 ∧ k_ ≠ gb276)) nA_ ?hr ?h0 ?h1 ((show ∀ k_, w31.heap.size ≤ k_ → (fun k_ => (w.heap.size ≤ k_) ∧ k_ ≠ gb247 ∧ k_ ≠ gb270 ∧ k_ ≠ gb276) k_ from fun k_ hk => ⟨(Nat.le_trans (below_size bb_) hk), Kd.freshB (g := gb247) (o := .cells #[.int .i64 0, .int .i64 0, .int .i64 0, .int .i64 0, .string (⟨#[]⟩ : ByteArray), .string (⟨#[]⟩ : ByteArray), .slice none 0 0] 28 (0, 0)) (bkx_ BK247.out) k_ hk, Kd.freshB (g := gb270) (o := .cells #[.int .i64 x271000_1, .int .i64 x271001_1, .int .i64 x271002_1, .int .i64 x271003_1, .string x271004_1, .string x271005_1, .slice Ao32 x271006_1.length co32] 28 (0, 0)) (bkx_ BK270.out) k_ hk, Kd.freshB (g := gb276) (o := .cells #[.int .i64 ((rd_T28 y271 x18_1).f0), .int .i64 ((rd_T28 y271 x18_1).f1), .int .i64 ((rd_T28 y271 x18_1).f2.f0), .int .i64 ((rd_T28 y271 x18_1).f2.f1), .string ((rd_T28 y271 x18_1).f2.f2), .string ((rd_T28 y271 x18_1).f3), .slice A275_6 ((rd_T28 y271 x18_1).f4).length c275_6] 28 (0, 0)) (bkx_ BK276.out) k_ hk⟩) _ (Nat.le_refl _)) (below_size bb_) ?_; (case hd => rfl); (case hg => rfl); (case hr => first | (go_simp; done) | (go_simp; rfl)); (case h0 => exact k28_mkM _ _ _ (⟨x271000_1, x271001_1, (⟨x271002_1, x271003_1, x271004_1⟩ : S25), x271005_1, x271006_1⟩ : S28) (Kd.S_mono HE_.out (fun _ h_ => h_))); (case h1 => exact k28_mkM _ _ _ (⟨t277, t278, (⟨t279, t280, t281⟩ : S25), t282, t283⟩ : S28) (Kd.S_mono HN_.out (fun k_ h_ => ⟨⟨Nat.le_trans hwA_.out h_.2, fun e_ => Nat.not_le.2 hlgb247_.out (e_ ▸ h_.2), fun e_ => Nat.not_le.2 hlgb270_.out (e_ ▸ h_.2), fun e_ => Nat.not_le.2 hlgb276_.out (e_ ▸ h_.2)⟩, h_.2⟩)))
         intro v287 w34 ho35 hb hg_ hnew_
         clear hg_ hnew_
         (first | rw [← Ny286.out] at ho35 | (simp only [Int.reduceToNat] at ho35; rw [← Ny286.out] at ho35))
         have HO288 := Aside0.mk ho35
         replace BK247 := bkb_ BK247 hb
         replace BK270 := bkb_ BK270 hb
         replace BK276 := bkb_ BK276 hb
         replace HB := bs_ hb
         clear HO285 HO_271006
         clear hb ho35
         obtain ⟨Ao36, co36, eo36⟩ := Kd.S_slice HO288.out
         (first | subst eo36 | (injection eo36 with f1_ f2_ f3_; have f4_ := f1_.symm; have f5_ := f3_.symm; clear f1_ f2_ f3_; subst f4_; subst f5_))
         refine hK.out _ _ ⟨bc_ BK270 0, bc_ BK270 1, bc_ BK270 2, bc_ BK270 3, bc_ BK270 4, bc_ BK270 5, bc_ BK270 6, bc_ BK276 0, bc_ BK276 1, bc_ BK276 2, bc_ BK276 3, bc_ BK276 4, bc_ BK276 5, bc_ BK276 6⟩ (fun hHeld => ?_)
         clear hK K
         refine nm_ ?_
         refine pure_ (i := 4) (N := some 26) (v := ?_) (a' := ?_) (tf 5 1) rfl rfl (by kernel_rfl) (fun _ _ _ h => h) (Or.inl ⟨by rfl, ?_⟩) ?_ ?_
         rotate_left
         ·intro w'
          go_simp
          with_reducible rfl
         rotate_left
         ·simp only [Act.put, List.setIfInBounds_toArray, List.set_cons_zero, List.set_cons_succ, i64_w, i32_w]
          rfl
         refine last_ (i := 5) (N := none) (tf 6 0) rfl rfl (by kernel_rfl) (by decide) (fun K hK => ?_)
         have hs37 : w34.cell? ⟨gb270, 0, none⟩ = some (.int .i64 x271000_1) := bc_ BK270 0
         have hfs37 := blk_frozen BK270.out 0
         have hns37_0 := NB247_270.out
         have hns37_2 := NB276_270.out
         have hms37_0 := NB270_247.out
         have hms37_2 := NB270_276.out
         have hs38 : w34.cell? ⟨gb270, 1, none⟩ = some (.int .i64 x271001_1) := bc_ BK270 1
         have hfs38 := blk_frozen BK270.out 1
         have hns38_0 := NB247_270.out
         have hns38_2 := NB276_270.out
         have hms38_0 := NB270_247.out
         have hms38_2 := NB270_276.out
         have hs39 : w34.cell? ⟨gb270, 2, none⟩ = some (.int .i64 x271002_1) := bc_ BK270 2
         have hfs39 := blk_frozen BK270.out 2
         have hns39_0 := NB247_270.out
         have hns39_2 := NB276_270.out
         have hms39_0 := NB270_247.out
         have hms39_2 := NB270_276.out
         have hs40 : w34.cell? ⟨gb270, 3, none⟩ = some (.int .i64 x271003_1) := bc_ BK270 3
         have hfs40 := blk_frozen BK270.out 3
         have hns40_0 := NB247_270.out
         have hns40_2 := NB276_270.out
         have hms40_0 := NB270_247.out
         have hms40_2 := NB270_276.out
         have hs41 : w34.cell? ⟨gb270, 4, none⟩ = some (.string x271004_1) := bc_ BK270 4
         have hfs41 := blk_frozen BK270.out 4
         have hns41_0 := NB247_270.out
         have hns41_2 := NB276_270.out
         have hms41_0 := NB270_247.out
         have hms41_2 := NB270_276.out
         have hs42 : w34.cell? ⟨gb270, 5, none⟩ = some (.string x271005_1) := bc_ BK270 5
         have hfs42 := blk_frozen BK270.out 5
         have hns42_0 := NB247_270.out
         have hns42_2 := NB276_270.out
         have hms42_0 := NB270_247.out
         have hms42_2 := NB270_276.out
         have hs43 : w34.cell? ⟨gb270, 6, none⟩ = some (.slice Ao32 x271006_1.length co32) := bc_ BK270 6
         have hfs43 := blk_frozen BK270.out 6
         have hns43_0 := NB247_270.out
         have hns43_2 := NB276_270.out
         have hms43_0 := NB270_247.out
         have hms43_2 := NB270_276.out
         refine skip_ (w1 := ?_) (by rfl) rfl ?_ ?_
         rotate_left
         ·go_simp
          rfl
         refine hK.out _ _ ?_
         clear hK K
         refine done_ (by kernel_rfl) ?_
         try go_wp2
         go_roundg k1
         case measure => have := HK1.out; omega
         case rel => exact ⟨(wrap64 (x18_1 + 1)), (2), (0), (0), (0), ((⟨#[]⟩ : ByteArray)), ((⟨#[97, 110, 100]⟩ : ByteArray)), (y286), (.slice Ao36 y286.length co36), rs_, H', ⟨by have := HK1.out; omega⟩, ⟨by (with_reducible repeat (first | apply Kd.S_alloc | apply Kd.S_drewN | apply Kd.S_drew)); exact Kd.S_mono (Kd.S_far (p := ⟨gb270, 6, none⟩) (Kd.S_far (p := ⟨gb270, 5, none⟩) (Kd.S_far (p := ⟨gb270, 4, none⟩) (Kd.S_far (p := ⟨gb270, 3, none⟩) (Kd.S_far (p := ⟨gb270, 2, none⟩) (Kd.S_far (p := ⟨gb270, 1, none⟩) (Kd.S_far (p := ⟨gb270, 0, none⟩) (Kd.S_mono HO288.out (fun k_ hk => (⟨hk, hk.2.2.1⟩ : _ ∧ k_ ≠ gb270))) (fun _ hk => hk.2) (.int .i64 2)) (fun _ hk => hk.2) (.int .i64 0)) (fun _ hk => hk.2) (.int .i64 0)) (fun _ hk => hk.2) (.int .i64 0)) (fun _ hk => hk.2) (.string (⟨#[]⟩ : ByteArray))) (fun _ hk => hk.2) (.string (⟨#[97, 110, 100]⟩ : ByteArray))) (fun _ hk => hk.2) (.slice Ao36 y286.length co36)) (fun _ hk => ⟨hk.1.1, ⟨hk.1.2.1, hk.1.2.2.1⟩⟩)⟩, ⟨(bf7_ NB247_270 (bkx_ BK247.out))⟩, ⟨(bp7_ (bkx_ BK270.out))⟩, ⟨bb_⟩⟩
        ·rw [if_neg c23] at H
         exact absurd H (by simp)
       ·rw [if_neg c22] at H
        exact absurd H (by simp)
      ·rw [if_neg c21] at H
       have c21b0 : decide (x18_1 < (y271.length : Int)) = false := decide_eq_false c21
       clear c21
       simp only [Option.some.injEq, Prod.mk.injEq] at H
       obtain ⟨rfl, rfl, rfl, rfl, rfl, rfl, rfl⟩ := H
       have hnb44 := NB270_247.out
       have hnc44 := NB247_270.out
       obtain ⟨hcz45_0, hcz45_1, hcz45_2, hcz45_3, hcz45_4, hcz45_5, hcz45_6, hfz45_0, hfz45_1, hfz45_2, hfz45_3, hfz45_4, hfz45_5, hfz45_6⟩ := b7_ BK270
       obtain ⟨hcz46_0, hcz46_1, hcz46_2, hcz46_3, hcz46_4, hcz46_5, hcz46_6, hfz46_0, hfz46_1, hfz46_2, hfz46_3, hfz46_4, hfz46_5, hfz46_6⟩ := b7_ BK247
       obtain ⟨Ao47, co47, eo47⟩ := Kd.S_slice HO_271006.out
       subst eo47
       go_wp2
       refine bodyPost_ret (results_cell_row rfl _ _ gb247 28 #[.int .i64 x271000_1, .int .i64 x271001_1, .int .i64 x271002_1, .int .i64 x271003_1, .string x271004_1, .string x271005_1, .slice Ao47 x271006_1.length co47] (0, 0) _ rfl (bp7_ (bkx_ BK247.out)) Try.underlying28 rfl (by kernel_rfl)) rfl ?_
       exact ⟨_, by first | rfl | (simp [errW_none, errW_some] <;> rfl) | (simp [*, errW_none, errW_some] <;> rfl), by (with_reducible repeat (first | apply Kd.S_alloc | apply Kd.S_drewN | apply Kd.S_drew)); exact Kd.S_mono (Kd.S_far (p := ⟨gb247, 6, none⟩) (Kd.S_far (p := ⟨gb247, 5, none⟩) (Kd.S_far (p := ⟨gb247, 4, none⟩) (Kd.S_far (p := ⟨gb247, 3, none⟩) (Kd.S_far (p := ⟨gb247, 2, none⟩) (Kd.S_far (p := ⟨gb247, 1, none⟩) (Kd.S_far (p := ⟨gb247, 0, none⟩) (Kd.S_mono HO_271006.out (fun k_ hk => (⟨hk, hk.2.1⟩ : _ ∧ k_ ≠ gb247))) (fun _ hk => hk.2) (.int .i64 x271000_1)) (fun _ hk => hk.2) (.int .i64 x271001_1)) (fun _ hk => hk.2) (.int .i64 x271002_1)) (fun _ hk => hk.2) (.int .i64 x271003_1)) (fun _ hk => hk.2) (.string x271004_1)) (fun _ hk => hk.2) (.string x271005_1)) (fun _ hk => hk.2) (.slice Ao47 x271006_1.length co47)) (fun _ hk => hk.1.1), by repeat (first | (with_reducible first | exact HB.out | apply below_alloc | apply pw_below_drewN | apply below_drew1 | refine below_set ?_ GE247.out | refine below_set ?_ GE270.out) | exact HB.out)⟩
   ·rw [if_neg c12] at H
    exact absurd H (by simp)
  ·rw [if_neg c10] at H
   exact absurd H (by simp)

/-! ### impl_within: function 82 -/
def impl_within.f (a0 : Int) (a1 : Int) (a2 : Int) : Option (Bool) := if a1 ≤ a0 then (some (decide (a0 ≤ a2))) else (some false)
set_option maxHeartbeats 8000000 in
set_option maxRecDepth 100000 in
theorem impl_within.calls (a0 : Int) (a1 : Int) (a2 : Int) (r : Bool) (w : World) (h : impl_within.f a0 a1 a2 = some r) :
  Calls Try.prog 82 #[.int .i64 a0, .int .i64 a1, .int .i64 a2] w fun e w' => e = .returned (.bool r) ∧ Drawn0 w w' := by
 have H : (if a1 ≤ a0 then (some (decide (a0 ≤ a2))) else (some false)) = some r := h
 clear h
 by_cases c4 : a1 ≤ a0
 ·rw [if_pos c4] at H
  have c4b0 : decide (a1 ≤ a0) = true := decide_eq_true c4
  clear c4
  obtain rfl := Option.some.inj H
  go_enter Try.func82, Try.ntmps82
  go_wp2
  go_ret
  exact ⟨by first | rfl | (simp; done) | (simp [*]; done), by repeat (first | exact Drawn0.refl _ | apply Drawn0.step)⟩
 ·rw [if_neg c4] at H
  have c4b0 : decide (a1 ≤ a0) = false := decide_eq_false c4
  clear c4
  obtain rfl := Option.some.inj H
  go_enter Try.func82, Try.ntmps82
  go_wp2
  go_ret
  exact ⟨by first | rfl | (simp; done) | (simp [*]; done), by repeat (first | exact Drawn0.refl _ | apply Drawn0.step)⟩

/-! ### impl_isColumn: function 104 -/
def impl_isColumn.f (a0 : Int) : Option (Bool) := (impl_within.f a0 0 11).bind fun t289 => (some t289)
set_option maxHeartbeats 8000000 in
set_option maxRecDepth 100000 in
theorem impl_isColumn.calls (a0 : Int) (r : Bool) (w : World) (h : impl_isColumn.f a0 = some r) :
  Calls Try.prog 104 #[.int .i64 a0] w fun e w' => e = .returned (.bool r) ∧ Drawn0 w w' := by
 have H : ((impl_within.f a0 0 11).bind fun t289 => (some t289)) = some r := h
 clear h
 replace H := Option.bind_eq_some_iff.mp H
 obtain ⟨t289, A20, H⟩ := H
 replace H : (some t289) = some r := H
 have A2 := Aside0.mk A20
 clear A20
 obtain rfl := Option.some.inj H
 go_enter Try.func104, Try.ntmps104
 go_wp2_with (first | ((with_reducible refine gate_callee (f := 82) rfl ?_); refine gsL_ (some 4) Try.func82 #[.int .i64 a0, .int .i64 0, .int .i64 11] ?_; (with_reducible refine (impl_within.calls a0 0 11 t289 _ A2.out).mono ?_); rintro e w' ⟨rfl, ⟨nd, rfl⟩⟩; refine ⟨_, rfl, ?_⟩))
 go_ret
 exact ⟨by first | rfl | (simp; done) | (simp [*]; done), by repeat (first | exact Drawn0.refl _ | apply Drawn0.step)⟩

/-! ### impl_ValueOk: function 105 -/
def impl_ValueOk.f (a0_0 : Int) (a0_1 : Int) (a0_2 : ByteArray) : Option (Bool) := if a0_0 = 0 then (if a0_1 = 0 then (some (a0_2.toList == ([] : List UInt8))) else (some false)) else (if a0_0 = 1 then (some (a0_2.toList == ([] : List UInt8))) else (if a0_0 = 2 then ((impl_within.f a0_1 0 1).bind fun t291 => (if t291 = true then (some (a0_2.toList == ([] : List UInt8))) else (some false))) else (if a0_0 = 3 then (if a0_1 = 0 then (some (decide ((a0_2.size : Int) ≤ 100))) else (some false)) else (some false))))
set_option maxHeartbeats 8000000 in
set_option maxRecDepth 100000 in
theorem impl_ValueOk.calls (a0_0 : Int) (a0_1 : Int) (a0_2 : ByteArray) (r : Bool) (w : World) (h : impl_ValueOk.f a0_0 a0_1 a0_2 = some r) :
  Calls Try.prog 105 #[.agg #[.int .i64 a0_0, .int .i64 a0_1, .string a0_2]] w fun e w' => e = .returned (.bool r) ∧ Below w.heap.size w w' := by
 have hu25 := Try.underlying25
 have HB := Aside0.mk (Below.refl w.heap.size w)
 have H : (if a0_0 = 0 then (if a0_1 = 0 then (some (a0_2.toList == ([] : List UInt8))) else (some false)) else (if a0_0 = 1 then (some (a0_2.toList == ([] : List UInt8))) else (if a0_0 = 2 then ((impl_within.f a0_1 0 1).bind fun t291 => (if t291 = true then (some (a0_2.toList == ([] : List UInt8))) else (some false))) else (if a0_0 = 3 then (if a0_1 = 0 then (some (decide ((a0_2.size : Int) ≤ 100))) else (some false)) else (some false))))) = some r := h
 clear h
 by_cases c2 : a0_0 = 0
 ·rw [if_pos c2] at H
  have c2b0 : (a0_0 == 0) = true := beq_iff_eq.mpr c2
  have c2b1 : (a0_0 != 0) = false := bne_eq_false_iff_eq.mpr c2
  clear c2
  by_cases c3 : a0_1 = 0
  ·rw [if_pos c3] at H
   have c3b0 : (a0_1 == 0) = true := beq_iff_eq.mpr c3
   have c3b1 : (a0_1 != 0) = false := bne_eq_false_iff_eq.mpr c3
   clear c3
   obtain rfl := Option.some.inj H
   go_enter Try.func105, Try.ntmps105
   go_wp2_with (first | ((with_reducible refine gate_dst (N := 1) rfl ?_); (try (refine gate_guard (by rfl) ?_; dsimp only)); refine bx_ 1 #[.int .i64 a0_0, .int .i64 a0_1, .string a0_2] 25 ?_; intro gb290 hg w4 hbox hb; have BK290 := Aside0.mk (hbox); have GW290 := gw_ hg; have GE290 := gw_ hg; replace HB := bs_ hb; clear hb hbox hg; obtain ⟨hcz5_0, hcz5_1, hcz5_2, hfz5_0, hfz5_1, hfz5_2⟩ := b3_ BK290))
   go_ret
   exact ⟨er_, bb_⟩
  ·rw [if_neg c3] at H
   have c3b0 : (a0_1 == 0) = false := beq_eq_false_iff_ne.mpr c3
   have c3b1 : (a0_1 != 0) = true := bne_iff_ne.mpr c3
   obtain rfl := Option.some.inj H
   go_enter Try.func105, Try.ntmps105
   go_wp2_with (first | ((with_reducible refine gate_dst (N := 1) rfl ?_); (try (refine gate_guard (by rfl) ?_; dsimp only)); refine bx_ 1 #[.int .i64 a0_0, .int .i64 a0_1, .string a0_2] 25 ?_; intro gb290 hg w6 hbox hb; have BK290 := Aside0.mk (hbox); have GW290 := gw_ hg; have GE290 := gw_ hg; replace HB := bs_ hb; clear hb hbox hg; obtain ⟨hcz7_0, hcz7_1, hcz7_2, hfz7_0, hfz7_1, hfz7_2⟩ := b3_ BK290))
   go_ret
   exact ⟨er_, bb_⟩
 ·rw [if_neg c2] at H
  have c2b0 : (a0_0 == 0) = false := beq_eq_false_iff_ne.mpr c2
  have c2b1 : (a0_0 != 0) = true := bne_iff_ne.mpr c2
  by_cases c8 : a0_0 = 1
  ·rw [if_pos c8] at H
   have c8b0 : (a0_0 == 1) = true := beq_iff_eq.mpr c8
   have c8b1 : (a0_0 != 1) = false := bne_eq_false_iff_eq.mpr c8
   clear c8
   obtain rfl := Option.some.inj H
   go_enter Try.func105, Try.ntmps105
   go_wp2_with (first | ((with_reducible refine gate_dst (N := 1) rfl ?_); (try (refine gate_guard (by rfl) ?_; dsimp only)); refine bx_ 1 #[.int .i64 a0_0, .int .i64 a0_1, .string a0_2] 25 ?_; intro gb290 hg w9 hbox hb; have BK290 := Aside0.mk (hbox); have GW290 := gw_ hg; have GE290 := gw_ hg; replace HB := bs_ hb; clear hb hbox hg; obtain ⟨hcz10_0, hcz10_1, hcz10_2, hfz10_0, hfz10_1, hfz10_2⟩ := b3_ BK290))
   go_ret
   exact ⟨er_, bb_⟩
  ·rw [if_neg c8] at H
   have c8b0 : (a0_0 == 1) = false := beq_eq_false_iff_ne.mpr c8
   have c8b1 : (a0_0 != 1) = true := bne_iff_ne.mpr c8
   by_cases c11 : a0_0 = 2
   ·rw [if_pos c11] at H
    have c11b0 : (a0_0 == 2) = true := beq_iff_eq.mpr c11
    have c11b1 : (a0_0 != 2) = false := bne_eq_false_iff_eq.mpr c11
    clear c11
    replace H := Option.bind_eq_some_iff.mp H
    obtain ⟨t291, A120, H⟩ := H
    replace H : (if t291 = true then (some (a0_2.toList == ([] : List UInt8))) else (some false)) = some r := H
    have A12 := Aside0.mk A120
    clear A120
    by_cases c13 : t291 = true
    ·subst c13
     have H1 : (some (a0_2.toList == ([] : List UInt8))) = some r := by rw [if_pos rfl] at H; exact H
     clear H
     have H := H1
     clear H1
     obtain rfl := Option.some.inj H
     go_enter Try.func105, Try.ntmps105
     go_wp2_with (first | ((with_reducible refine gate_dst (N := 1) rfl ?_); (try (refine gate_guard (by rfl) ?_; dsimp only)); refine bx_ 1 #[.int .i64 a0_0, .int .i64 a0_1, .string a0_2] 25 ?_; intro gb290 hg w14 hbox hb; have BK290 := Aside0.mk (hbox); have GW290 := gw_ hg; have GE290 := gw_ hg; replace HB := bs_ hb; clear hb hbox hg; obtain ⟨hcz15_0, hcz15_1, hcz15_2, hfz15_0, hfz15_1, hfz15_2⟩ := b3_ BK290) | ((with_reducible refine gate_callee (f := 82) rfl ?_); refine gsL_ (some 24) Try.func82 #[.int .i64 a0_1, .int .i64 0, .int .i64 1] ?_; (with_reducible refine (impl_within.calls a0_1 0 1 true _ A12.out).mono ?_); rintro e w' ⟨rfl, ⟨nd, rfl⟩⟩; refine ⟨_, rfl, ?_⟩))
     go_ret
     exact ⟨er_, bb_⟩
    ·replace c13 := Bool.eq_false_iff.mpr c13
     subst c13
     have H1 : (some false) = some r := by rw [if_neg (show ¬ (false = true) by decide)] at H; exact H
     clear H
     have H := H1
     clear H1
     obtain rfl := Option.some.inj H
     go_enter Try.func105, Try.ntmps105
     go_wp2_with (first | ((with_reducible refine gate_dst (N := 1) rfl ?_); (try (refine gate_guard (by rfl) ?_; dsimp only)); refine bx_ 1 #[.int .i64 a0_0, .int .i64 a0_1, .string a0_2] 25 ?_; intro gb290 hg w16 hbox hb; have BK290 := Aside0.mk (hbox); have GW290 := gw_ hg; have GE290 := gw_ hg; replace HB := bs_ hb; clear hb hbox hg; obtain ⟨hcz17_0, hcz17_1, hcz17_2, hfz17_0, hfz17_1, hfz17_2⟩ := b3_ BK290) | ((with_reducible refine gate_callee (f := 82) rfl ?_); refine gsL_ (some 24) Try.func82 #[.int .i64 a0_1, .int .i64 0, .int .i64 1] ?_; (with_reducible refine (impl_within.calls a0_1 0 1 false _ A12.out).mono ?_); rintro e w' ⟨rfl, ⟨nd, rfl⟩⟩; refine ⟨_, rfl, ?_⟩))
     go_ret
     exact ⟨er_, bb_⟩
   ·rw [if_neg c11] at H
    have c11b0 : (a0_0 == 2) = false := beq_eq_false_iff_ne.mpr c11
    have c11b1 : (a0_0 != 2) = true := bne_iff_ne.mpr c11
    by_cases c18 : a0_0 = 3
    ·rw [if_pos c18] at H
     have c18b0 : (a0_0 == 3) = true := beq_iff_eq.mpr c18
     have c18b1 : (a0_0 != 3) = false := bne_eq_false_iff_eq.mpr c18
     clear c18
     by_cases c19 : a0_1 = 0
     ·rw [if_pos c19] at H
      have c19b0 : (a0_1 == 0) = true := beq_iff_eq.mpr c19
      have c19b1 : (a0_1 != 0) = false := bne_eq_false_iff_eq.mpr c19
      clear c19
      obtain rfl := Option.some.inj H
      go_enter Try.func105, Try.ntmps105
      go_wp2_with (first | ((with_reducible refine gate_dst (N := 1) rfl ?_); (try (refine gate_guard (by rfl) ?_; dsimp only)); refine bx_ 1 #[.int .i64 a0_0, .int .i64 a0_1, .string a0_2] 25 ?_; intro gb290 hg w20 hbox hb; have BK290 := Aside0.mk (hbox); have GW290 := gw_ hg; have GE290 := gw_ hg; replace HB := bs_ hb; clear hb hbox hg; obtain ⟨hcz21_0, hcz21_1, hcz21_2, hfz21_0, hfz21_1, hfz21_2⟩ := b3_ BK290))
      go_ret
      exact ⟨er_, bb_⟩
     ·rw [if_neg c19] at H
      have c19b0 : (a0_1 == 0) = false := beq_eq_false_iff_ne.mpr c19
      have c19b1 : (a0_1 != 0) = true := bne_iff_ne.mpr c19
      obtain rfl := Option.some.inj H
      go_enter Try.func105, Try.ntmps105
      go_wp2_with (first | ((with_reducible refine gate_dst (N := 1) rfl ?_); (try (refine gate_guard (by rfl) ?_; dsimp only)); refine bx_ 1 #[.int .i64 a0_0, .int .i64 a0_1, .string a0_2] 25 ?_; intro gb290 hg w22 hbox hb; have BK290 := Aside0.mk (hbox); have GW290 := gw_ hg; have GE290 := gw_ hg; replace HB := bs_ hb; clear hb hbox hg; obtain ⟨hcz23_0, hcz23_1, hcz23_2, hfz23_0, hfz23_1, hfz23_2⟩ := b3_ BK290))
      go_ret
      exact ⟨er_, bb_⟩
    ·rw [if_neg c18] at H
     have c18b0 : (a0_0 == 3) = false := beq_eq_false_iff_ne.mpr c18
     have c18b1 : (a0_0 != 3) = true := bne_iff_ne.mpr c18
     obtain rfl := Option.some.inj H
     go_enter Try.func105, Try.ntmps105
     go_wp2_with (first | ((with_reducible refine gate_dst (N := 1) rfl ?_); (try (refine gate_guard (by rfl) ?_; dsimp only)); refine bx_ 1 #[.int .i64 a0_0, .int .i64 a0_1, .string a0_2] 25 ?_; intro gb290 hg w24 hbox hb; have BK290 := Aside0.mk (hbox); have GW290 := gw_ hg; have GE290 := gw_ hg; replace HB := bs_ hb; clear hb hbox hg; obtain ⟨hcz25_0, hcz25_1, hcz25_2, hfz25_0, hfz25_1, hfz25_2⟩ := b3_ BK290))
     go_ret
     exact ⟨er_, bb_⟩

/-! ### slices_Index_string_string: function 138 -/
def slices_Index_string_string.l0 : Nat → List ByteArray → ByteArray → Int → Int → Option (Int)
 | 0, _, _, _, _ => none
 | k + 1, x0, x1, x7, x8 => if x8 < x7 then (if 0 ≤ x8 then (if x8 < (x0.length : Int) then (if x1.toList = (rdOf ByteArray.empty x0 x8).toList then (some x8) else (slices_Index_string_string.l0 k x0 x1 x7 (wrap64 (x8 + 1)))) else (none)) else (none)) else (some (-1))
def slices_Index_string_string.f (k : Nat) (l0 : List ByteArray) (a1 : ByteArray) : Option (Int) := slices_Index_string_string.l0 k l0 a1 (l0.length : Int) 0
set_option maxHeartbeats 8000000 in
set_option maxRecDepth 100000 in
theorem slices_Index_string_string.calls (k : Nat) (A0 : Option Addr) (c0 : Nat) (l0 : List ByteArray) (a1 : ByteArray) (r : Int) (w : World) (hr0 : Kd.C Kd.string w A0 l0.length l0) (hc0 : l0.length ≤ c0) (h : slices_Index_string_string.f k l0 a1 = some r) :
  Calls Try.prog 138 #[.slice A0 l0.length c0, .string a1] w fun e w' => e = .returned (.int .i64 r) ∧ Drawn0 w w' := by
 have HR0 := Aside0.mk hr0
 have HC0 := Aside0.mk hc0
 clear hr0 hc0
 have H : (slices_Index_string_string.l0 k l0 a1 (l0.length : Int) 0) = some r := h
 clear h
 have H' := Aside0.mk H
 clear H
 go_enter Try.func138, Try.ntmps138
 go_wp2
 go_loopg [8] k (fun kq v8 w' => ∃ (x8_1 : Int), v8 = .int .i64 x8_1 ∧ Aside0 (slices_Index_string_string.l0 kq l0 a1 (l0.length : Int) x8_1 = some r) ∧ Aside0 (kq ≤ k) ∧ Drawn0 w w')
 case atStart => exact ⟨(0), rs_, H', ⟨Nat.le_refl _⟩, by repeat (first | exact Drawn0.refl _ | apply Drawn0.step)⟩
 case round =>
  clear H'
  try clear c1
  try clear p2
  obtain ⟨x8_1, rfl, HA, HK1, ⟨m1, rfl⟩⟩ := hrel
  cases gk with
  | zero => exact absurd HA.out (by simp [slices_Index_string_string.l0])
  | succ k1 =>
   have H := HA.out
   clear HA
   simp only [slices_Index_string_string.l0] at H
   by_cases c3 : x8_1 < (l0.length : Int)
   ·rw [if_pos c3] at H
    have c3b0 : decide (x8_1 < (l0.length : Int)) = true := decide_eq_true c3
    clear c3
    by_cases c4 : 0 ≤ x8_1
    ·rw [if_pos c4] at H
     have c4b0 : decide (0 ≤ x8_1) = true := decide_eq_true c4
     clear c4
     by_cases c5 : x8_1 < (l0.length : Int)
     ·rw [if_pos c5] at H
      have c5b0 : decide (x8_1 < (l0.length : Int)) = true := decide_eq_true c5
      clear c5
      by_cases c6 : a1.toList = (rdOf ByteArray.empty l0 x8_1).toList
      ·rw [if_pos c6] at H
       have c6b0 : (a1.toList == (rdOf ByteArray.empty l0 x8_1).toList) = true := beq_iff_eq.mpr c6
       have c6b1 : (a1.toList != (rdOf ByteArray.empty l0 x8_1).toList) = false := bne_eq_false_iff_eq.mpr c6
       clear c6
       obtain rfl := Option.some.inj H
       have p292 : 0 ≤ (x8_1 : Int) := of_decide_eq_true (by first | (with_reducible assumption) | assumption)
       have q292 : x8_1 < (l0.length : Int) := of_decide_eq_true (by first | (with_reducible assumption) | assumption)
       obtain ⟨ad292, e292, hx292_0⟩ := Kd.at_string HR0.out x8_1 p292 q292
       cases e292
       replace p292 := eq_true p292
       replace q292 := eq_true q292
       go_wp2
       go_ret
       exact ⟨by first | rfl | (simp; done) | (simp [*]; done), by repeat (first | exact Drawn0.refl _ | apply Drawn0.step)⟩
      ·rw [if_neg c6] at H
       have c6b0 : (a1.toList == (rdOf ByteArray.empty l0 x8_1).toList) = false := beq_eq_false_iff_ne.mpr c6
       have c6b1 : (a1.toList != (rdOf ByteArray.empty l0 x8_1).toList) = true := bne_iff_ne.mpr c6
       have H' := Aside0.mk H
       clear H
       have p292 : 0 ≤ (x8_1 : Int) := of_decide_eq_true (by first | (with_reducible assumption) | assumption)
       have q292 : x8_1 < (l0.length : Int) := of_decide_eq_true (by first | (with_reducible assumption) | assumption)
       obtain ⟨ad292, e292, hx292_0⟩ := Kd.at_string HR0.out x8_1 p292 q292
       cases e292
       replace p292 := eq_true p292
       replace q292 := eq_true q292
       go_wp2
       go_roundg k1
       case measure => have := HK1.out; omega
       case rel => exact ⟨(wrap64 (x8_1 + 1)), rs_, H', ⟨by have := HK1.out; omega⟩, by repeat (first | exact Drawn0.refl _ | apply Drawn0.step)⟩
     ·rw [if_neg c5] at H
      exact absurd H (by simp)
    ·rw [if_neg c4] at H
     exact absurd H (by simp)
   ·rw [if_neg c3] at H
    have c3b0 : decide (x8_1 < (l0.length : Int)) = false := decide_eq_false c3
    clear c3
    obtain rfl := Option.some.inj H
    go_wp2
    go_ret
    exact ⟨by first | rfl | (simp; done) | (simp [*]; done), by repeat (first | exact Drawn0.refl _ | apply Drawn0.step)⟩

/-! ### slices_Contains_string_string: function 123 -/
def slices_Contains_string_string.f (k : Nat) (l0 : List ByteArray) (a1 : ByteArray) : Option (Bool) := (slices_Index_string_string.f k l0 a1).bind fun t293 => (some (decide (t293 ≥ 0)))
set_option maxHeartbeats 8000000 in
set_option maxRecDepth 100000 in
theorem slices_Contains_string_string.calls (k : Nat) (A0 : Option Addr) (c0 : Nat) (l0 : List ByteArray) (a1 : ByteArray) (r : Bool) (w : World) (hr0 : Kd.C Kd.string w A0 l0.length l0) (hc0 : l0.length ≤ c0) (h : slices_Contains_string_string.f k l0 a1 = some r) :
  Calls Try.prog 123 #[.slice A0 l0.length c0, .string a1] w fun e w' => e = .returned (.bool r) ∧ Drawn0 w w' := by
 have HR0 := Aside0.mk hr0
 have HC0 := Aside0.mk hc0
 clear hr0 hc0
 have H : ((slices_Index_string_string.f k l0 a1).bind fun t293 => (some (decide (t293 ≥ 0)))) = some r := h
 clear h
 replace H := Option.bind_eq_some_iff.mp H
 obtain ⟨t293, A30, H⟩ := H
 replace H : (some (decide (t293 ≥ 0))) = some r := H
 have A3 := Aside0.mk A30
 clear A30
 obtain rfl := Option.some.inj H
 go_enter Try.func123, Try.ntmps123
 go_wp2_with (first | ((with_reducible refine gate_callee (f := 138) rfl ?_); refine gsL_ (some 7) Try.func138 #[.slice A0 l0.length c0, .string a1] ?_; (with_reducible refine (slices_Index_string_string.calls k _ _ l0 a1 t293 _ ?side1 ?side2 A3.out).mono ?_); (case side1 => exact ck_ HR0.out); (case side2 => exact HC0.out); rintro e w' ⟨rfl, ⟨nd, rfl⟩⟩; refine ⟨_, rfl, ?_⟩))
 go_ret
 exact ⟨by first | rfl | (simp; done) | (simp [*]; done), by repeat (first | exact Drawn0.refl _ | apply Drawn0.step)⟩

/-! ### impl_isOp: function 106 -/
def impl_isOp.f (k : Nat) (a0 : ByteArray) : Option (Bool) := (slices_Contains_string_string.f k (([(⟨#[43]⟩ : ByteArray), (⟨#[45]⟩ : ByteArray), (⟨#[42]⟩ : ByteArray), (⟨#[47]⟩ : ByteArray), (⟨#[61]⟩ : ByteArray), (⟨#[60]⟩ : ByteArray), (⟨#[126]⟩ : ByteArray), (⟨#[97, 110, 100]⟩ : ByteArray), (⟨#[111, 114]⟩ : ByteArray)] : List ByteArray)) a0).bind fun t297 => (some t297)
set_option maxHeartbeats 8000000 in
set_option maxRecDepth 100000 in
theorem impl_isOp.calls (k : Nat) (a0 : ByteArray) (r : Bool) (w : World) (h : impl_isOp.f k a0 = some r) :
  Calls Try.prog 106 #[.string a0] w fun e w' => e = .returned (.bool r) ∧ Below w.heap.size w w' := by
 have HB := Aside0.mk (Below.refl w.heap.size w)
 have H : ((slices_Contains_string_string.f k (([(⟨#[43]⟩ : ByteArray), (⟨#[45]⟩ : ByteArray), (⟨#[42]⟩ : ByteArray), (⟨#[47]⟩ : ByteArray), (⟨#[61]⟩ : ByteArray), (⟨#[60]⟩ : ByteArray), (⟨#[126]⟩ : ByteArray), (⟨#[97, 110, 100]⟩ : ByteArray), (⟨#[111, 114]⟩ : ByteArray)] : List ByteArray)) a0).bind fun t297 => (some t297)) = some r := h
 clear h
 obtain ⟨y294, hy294⟩ : ∃ y_ : List ByteArray, y_ = (([(⟨#[43]⟩ : ByteArray), (⟨#[45]⟩ : ByteArray), (⟨#[42]⟩ : ByteArray), (⟨#[47]⟩ : ByteArray), (⟨#[61]⟩ : ByteArray), (⟨#[60]⟩ : ByteArray), (⟨#[126]⟩ : ByteArray), (⟨#[97, 110, 100]⟩ : ByteArray), (⟨#[111, 114]⟩ : ByteArray)] : List ByteArray)) := ⟨_, rfl⟩
 replace H : ((slices_Contains_string_string.f k y294 a0).bind fun t297 => (some t297)) = some r := by first | (rw [hy294]; with_reducible exact H) | (have H2_ := (Option.bind_some _ _).symm.trans H; rw [hy294]; with_reducible exact H2_) | (have H2_ := (Option.bind_some _ _).symm.trans H; with_reducible exact H2_) | with_reducible exact H | (rw [hy294]; exact H) | exact H
 have Ny294 := Aside0.mk hy294
 clear hy294
 replace H := Option.bind_eq_some_iff.mp H
 obtain ⟨t297, A20, H⟩ := H
 replace H : (some t297) = some r := H
 have A2 := Aside0.mk A20
 clear A20
 obtain rfl := Option.some.inj H
 go_enter Try.func106, Try.ntmps106
 go_wp2_with (first | ((with_reducible refine gate_dst (N := 3) rfl ?_); refine Kd.R_lit Kd.string _ 9 ?hg (N := 3) ?hd (xs := ([(⟨#[43]⟩ : ByteArray), (⟨#[45]⟩ : ByteArray), (⟨#[42]⟩ : ByteArray), (⟨#[47]⟩ : ByteArray), (⟨#[61]⟩ : ByteArray), (⟨#[60]⟩ : ByteArray), (⟨#[126]⟩ : ByteArray), (⟨#[97, 110, 100]⟩ : ByteArray), (⟨#[111, 114]⟩ : ByteArray)] : List ByteArray)) (inner := [.string (⟨#[43]⟩ : ByteArray), .string (⟨#[45]⟩ : ByteArray), .string (⟨#[42]⟩ : ByteArray), .string (⟨#[47]⟩ : ByteArray), .string (⟨#[61]⟩ : ByteArray), .string (⟨#[60]⟩ : ByteArray), .string (⟨#[126]⟩ : ByteArray), .string (⟨#[97, 110, 100]⟩ : ByteArray), .string (⟨#[111, 114]⟩ : ByteArray)]) (ok := fun _ => True) (okp := fun _ => True) ?hr ?hp (fun _ hk => hk) trivial (Below.refl _ _) (Nat.le_refl _) (by simp) ?_; (case hd => rfl); (case hg => rfl); (case hr => first | (go_simp; done) | (go_simp; rfl)); (case hp => exact (Reps.one (show Kd.M Kd.string _ _ _ (⟨#[43]⟩ : ByteArray) [.string (⟨#[43]⟩ : ByteArray)] from rfl) (Reps.one (show Kd.M Kd.string _ _ _ (⟨#[45]⟩ : ByteArray) [.string (⟨#[45]⟩ : ByteArray)] from rfl) (Reps.one (show Kd.M Kd.string _ _ _ (⟨#[42]⟩ : ByteArray) [.string (⟨#[42]⟩ : ByteArray)] from rfl) (Reps.one (show Kd.M Kd.string _ _ _ (⟨#[47]⟩ : ByteArray) [.string (⟨#[47]⟩ : ByteArray)] from rfl) (Reps.one (show Kd.M Kd.string _ _ _ (⟨#[61]⟩ : ByteArray) [.string (⟨#[61]⟩ : ByteArray)] from rfl) (Reps.one (show Kd.M Kd.string _ _ _ (⟨#[60]⟩ : ByteArray) [.string (⟨#[60]⟩ : ByteArray)] from rfl) (Reps.one (show Kd.M Kd.string _ _ _ (⟨#[126]⟩ : ByteArray) [.string (⟨#[126]⟩ : ByteArray)] from rfl) (Reps.one (show Kd.M Kd.string _ _ _ (⟨#[97, 110, 100]⟩ : ByteArray) [.string (⟨#[97, 110, 100]⟩ : ByteArray)] from rfl) (Reps.one (show Kd.M Kd.string _ _ _ (⟨#[111, 114]⟩ : ByteArray) [.string (⟨#[111, 114]⟩ : ByteArray)] from rfl) (Reps.none _ _))))))))))); intro v295 w3 ho4 hb hg_ hnew_; clear hg_ hnew_; (first | rw [← Ny294.out] at ho4 | (simp only [Int.reduceToNat] at ho4; rw [← Ny294.out] at ho4)); have HO296 := Aside0.mk (Kd.R_lower ho4 (below_size bb_)); replace HB := bs_ hb; clear hb ho4; obtain ⟨Ao5, co5, eo5⟩ := Kd.R_slice HO296.out; subst eo5) | ((with_reducible refine gate_callee (f := 123) rfl ?_); refine gsL_ (some 5) Try.func123 #[.slice Ao5 y294.length co5, .string a0] ?_; (with_reducible refine (slices_Contains_string_string.calls k _ _ y294 a0 t297 _ ?side1 ?side2 A2.out).mono ?_); (case side1 => exact ck_ (Kd.R_reads' HO296.out).2.2); (case side2 => exact (Kd.R_reads' HO296.out).2.1); rintro e w' ⟨rfl, ⟨nd, rfl⟩⟩; refine ⟨_, rfl, ?_⟩))
 go_ret
 exact ⟨er_, bb_⟩

/-! ### slices.IndexFunc[[]loop.example/g00312/impl.Exp,loop.example/g00312/impl.Exp]: function 139 -/
set_option maxHeartbeats 4000000 in
set_option maxRecDepth 100000 in
theorem IndexFunc_T28.calls (f : S28 → Option Bool) (g : Nat) (lb : Array Value) (eg : ∀ args w, (callFunc g args).run Try.prog w = .ok (.enter g args) w) (A : Option Addr) (c : Nat) (xs : List S28) (r : Int) (w : World) (hr : Kd.C k28 w A xs.length xs) (hp : CB Try.prog k28 (fun cs => Value.agg cs.toArray) g lb f xs w) (h : idxO f xs 0 = some r) :
  Calls Try.prog 139 #[.slice A xs.length c, .func (.func g) #[] lb] w fun e w' => e = .returned (.int .i64 r) ∧ Below w.heap.size w w' := by
 have hbig : xs.length ≤ 9223372036854775807 := hr.2.1
 have HR := Aside0.mk hr
 have HP := Aside0.mk hp
 have HX := Aside0.mk h
 clear hr hp h
 go_enter Try.func139, Try.ntmps139
 go_wp2
 go_loopg [5, 8] xs.length (fun gg _ s8 wr => ∃ x : Int, s8 = .int .i64 x ∧ Aside0 (0 ≤ x ∧ x ≤ xs.length ∧ xs.length - x.toNat ≤ gg ∧ idxO f (xs.drop x.toNat) x = some r ∧ Below w.heap.size w wr))
 case atStart => exact ⟨0, rfl, ⟨by omega, by omega, by simp, by simpa using HX.out, Below.refl _ _⟩⟩
 case round =>
  obtain ⟨x, rfl, HI⟩ := hrel
  obtain ⟨x0, x1, hg, hi, BW⟩ := HI.out
  by_cases hlt : x < (xs.length : Int)
  ·have c4 : decide (x < (xs.length : Int)) = true := decide_eq_true hlt
   have c5 : decide (0 ≤ x) = true := decide_eq_true x0
   obtain ⟨ad, cs, rfl, hl, hK, hcell⟩ := Kd.C_get (Kd.C_below HR.out BW) (z28 : S28) x x0 hlt
   obtain ⟨b, hb, hm, ht, hf⟩ := idxO_step (z28 : S28) x0 hlt hi
   generalize xs.getD x.toNat (z28 : S28) = p at hK hb hm
   have hK0 := hK
   obtain ⟨aA6, aC6, rfl, _, _⟩ := k28_open hK
   have hcell1 : ∀ j u, ([(.int .i64 p.f0), (.int .i64 p.f1), (.int .i64 p.f2.f0), (.int .i64 p.f2.f1), (.string p.f2.f2), (.string p.f3), (.slice aA6 p.f4.length aC6)] : List Value)[j]? = some u → wr.cell? (ad.add (x.toNat * 7 + j)) = some u := hcell
   have hc0 : wr.cell? (ad.add (x.toNat * 7)) = some (.int .i64 p.f0) := hcell1 0 _ rfl
   have hc1 : wr.cell? ⟨(ad.add (x.toNat * 7)).block, (ad.add (x.toNat * 7)).off + 1, none⟩ = some (.int .i64 p.f1) := by rw [← add_field _ _ 1 (by omega)]; exact hcell1 1 _ rfl
   have hc2 : wr.cell? ⟨(ad.add (x.toNat * 7)).block, (ad.add (x.toNat * 7)).off + 2, none⟩ = some (.int .i64 p.f2.f0) := by rw [← add_field _ _ 2 (by omega)]; exact hcell1 2 _ rfl
   have hc3 : wr.cell? ⟨(ad.add (x.toNat * 7)).block, (ad.add (x.toNat * 7)).off + 3, none⟩ = some (.int .i64 p.f2.f1) := by rw [← add_field _ _ 3 (by omega)]; exact hcell1 3 _ rfl
   have hc4 : wr.cell? ⟨(ad.add (x.toNat * 7)).block, (ad.add (x.toNat * 7)).off + 4, none⟩ = some (.string p.f2.f2) := by rw [← add_field _ _ 4 (by omega)]; exact hcell1 4 _ rfl
   have hc5 : wr.cell? ⟨(ad.add (x.toNat * 7)).block, (ad.add (x.toNat * 7)).off + 5, none⟩ = some (.string p.f3) := by rw [← add_field _ _ 5 (by omega)]; exact hcell1 5 _ rfl
   have hc6 : wr.cell? ⟨(ad.add (x.toNat * 7)).block, (ad.add (x.toNat * 7)).off + 6, none⟩ = some (.slice aA6 p.f4.length aC6) := by rw [← add_field _ _ 6 (by omega)]; exact hcell1 6 _ rfl
   have hcall : Calls Try.prog g (#[(.agg #[(.int .i64 p.f0), (.int .i64 p.f1), (.int .i64 p.f2.f0), (.int .i64 p.f2.f1), (.string p.f2.f2), (.string p.f3), (.slice aA6 p.f4.length aC6)])] ++ lb) wr (fun e w' => e = .returned (.bool b) ∧ Below wr.heap.size wr w') := HP.out wr _ _ b BW hm hK0 hb
   cases b with
   | true =>
    have HJ := Aside0.mk (And.intro (ht rfl) BW)
    clear hcell hcell1 hK hb hm ht hf hi BW HI hg hl hK0
    go_wp2_with (go_at_fn g; refine hcall.mono ?_; rintro e w' ⟨rfl, hb'⟩)
    go_ret
    exact ⟨ret_int_eq HJ.out.1.symm, HJ.out.2.trans (hb'.mono HJ.out.2.size)⟩
   | false =>
    have HJ := Aside0.mk (And.intro hg (And.intro (hf rfl) BW))
    clear hcell hcell1 hK hb hm ht hf hi BW HI hg hl hK0
    go_wp2_with (go_at_fn g; refine hcall.mono ?_; rintro e w' ⟨rfl, hb'⟩)
    go_roundg (xs.length - (x.toNat + 1))
    case measure => have := HJ.out.1; omega
    case rel => exact ⟨x + 1, by go_num, ⟨by omega, by omega, by omega, HJ.out.2.1, HJ.out.2.2.trans (hb'.mono HJ.out.2.2.size)⟩⟩
  ·have c4 : decide (x < (xs.length : Int)) = false := decide_eq_false hlt
   have hr : r = -1 := idxO_end hlt hi
   clear hi HI
   subst hr
   go_wp2
   go_ret
   exact ⟨rfl, BW⟩

/-! ### slices.ContainsFunc[[]loop.example/g00312/impl.Exp,loop.example/g00312/impl.Exp]: function 124 -/
set_option maxHeartbeats 4000000 in
set_option maxRecDepth 100000 in
theorem ContainsFunc_T28.calls (f : S28 → Option Bool) (g : Nat) (lb : Array Value) (eg : ∀ args w, (callFunc g args).run Try.prog w = .ok (.enter g args) w) (A : Option Addr) (c : Nat) (xs : List S28) (r : Int) (w : World) (hr : Kd.C k28 w A xs.length xs) (hp : CB Try.prog k28 (fun cs => Value.agg cs.toArray) g lb f xs w) (h : idxO f xs 0 = some r) :
  Calls Try.prog 124 #[.slice A xs.length c, .func (.func g) #[] lb] w fun e w' => e = .returned (.bool (decide (r ≥ 0))) ∧ Below w.heap.size w w' := by
 have hcall := IndexFunc_T28.calls f g lb eg A c xs r w hr hp h
 clear hr hp h
 go_enter Try.func124, Try.ntmps124
 go_wp2_with (go_at_call 139; refine hcall.mono ?_; rintro e w' ⟨rfl, hb'⟩)
 go_ret
 exact ⟨rfl, hb'⟩

-- NOT PRINTED: function 125 (impl_Exp_1)

/-! ### loop.example/g00312/impl.areAll[loop.example/g00312/impl.Exp]: function 107 -/
set_option maxHeartbeats 4000000 in
set_option maxRecDepth 100000 in
theorem areAll_T28.not (f : S28 → Option Bool) (g : Nat) (lb : Array Value) (eg : ∀ args w, (callFunc g args).run Try.prog w = .ok (.enter g args) w) (B : Nat) (xs : List S28) (w : World) (hB : B < w.heap.size) (hp : CB Try.prog k28 (fun cs => Value.agg cs.toArray) g lb f xs w) (hc : w.cell? ⟨B, 0, none⟩ = some (.func (.func g) #[] lb)) :
  CB Try.prog k28 (fun cs => Value.agg cs.toArray) 125 #[.pointer (some ⟨B, 0, none⟩)] (fun x => (f x).map not) xs w := by
   intro W x cs b hb hm hK hf
   obtain ⟨t, ht, rfl⟩ := Option.map_eq_some_iff.1 hf
   have hK0 := hK
   have hc' : W.cell? ⟨B, 0, none⟩ = some (.func (.func g) #[] lb) := (hb.cell (p := ⟨B, 0, none⟩) hB).trans hc
   obtain ⟨aA6, aC6, rfl, _, _⟩ := k28_open hK
   have hcall : ∀ W1, Below W.heap.size W W1 → Calls Try.prog g (#[(.agg #[(.int .i64 x.f0), (.int .i64 x.f1), (.int .i64 x.f2.f0), (.int .i64 x.f2.f1), (.string x.f2.f2), (.string x.f3), (.slice aA6 x.f4.length aC6)])] ++ lb) W1 (fun e w' => e = .returned (.bool t) ∧ Below W1.heap.size W1 w') := fun W1 h1 => hp W1 x _ t (hb.trans (h1.mono hb.size)) hm (Kd.K_below _ h1 hK0) ht
   have hcd := fun o : Obj => cell_alloc_old o hc'
   have HN := Aside0.mk (show B ≠ W.heap.size from fun e => by have := hb.size; omega)
   clear hp hf hK hK0 hm hb hc ht 
   have hBW := HN.out
   have hBW' := Ne.symm hBW
   show Calls Try.prog 125 #[(.agg #[(.int .i64 x.f0), (.int .i64 x.f1), (.int .i64 x.f2.f0), (.int .i64 x.f2.f1), (.string x.f2.f2), (.string x.f3), (.slice aA6 x.f4.length aC6)]), .pointer (some ⟨B, 0, none⟩)] W _
   go_enter Try.func125, Try.ntmps125
   go_wp2_with (go_at_fn g; refine (hcall _ (by first | exact Below.refl _ _ | exact below_alloc (Below.refl _ _) _)).mono ?_; rintro e w' ⟨rfl, hb'⟩)
   go_ret
   exact ⟨rfl, by first | exact hb' | exact (below_alloc (Below.refl _ _) _ : Below W.heap.size W _).trans (hb'.mono (by simp))⟩
set_option maxHeartbeats 4000000 in
set_option maxRecDepth 100000 in
theorem areAll_T28.calls (f : S28 → Option Bool) (g : Nat) (lb : Array Value) (eg : ∀ args w, (callFunc g args).run Try.prog w = .ok (.enter g args) w) (A : Option Addr) (c : Nat) (xs : List S28) (r : Bool) (w : World) (hr : Kd.C k28 w A xs.length xs) (hp : CB Try.prog k28 (fun cs => Value.agg cs.toArray) g lb f xs w) (h : allO f xs = some r) :
  Calls Try.prog 107 #[.slice A xs.length c, .func (.func g) #[] lb] w fun e w' => e = .returned (.bool r) ∧ Below w.heap.size w w' := by
 obtain ⟨j, hj, hjr⟩ := idxO_not h 0 (Int.le_refl _)
 have e_l : ∀ args w, (callFunc 125 args).run Try.prog w = .ok (.enter 125 args) w := enters_of Try.func125 (by kernel_rfl) rfl
 have hB0 : Below w.heap.size w (w.alloc (.cells #[.func (.func g) #[] lb] 62)) := below_alloc (Below.refl _ _) _
 have hp1 := CB.later hB0 hp
 have hnot := areAll_T28.not f g lb eg w.heap.size xs _ (by simp) hp1 (by simp)
 have hcall := ContainsFunc_T28.calls _ 125 _ e_l A c xs j _ (Kd.C_below hr hB0) hnot hj
 have HJ := Aside0.mk hjr
 clear hr hp h hjr hj hp1 hnot hB0
 go_enter Try.func107, Try.ntmps107
 go_wp2_with (go_at_call 124; refine hcall.mono ?_; rintro e w' ⟨rfl, hb'⟩)
 go_ret
 exact ⟨ret_bool_eq (by rw [HJ.out]; cases r <;> rfl), (below_alloc (Below.refl _ _) _ : Below w.heap.size w _).trans (hb'.mono (by simp))⟩

-- NOT PRINTED: function 108 (impl_isExp_1)

end Go.Proofs.Ytapgfamppnhnmaa.PFnExactAndAll
