-- WRITTEN BY xprint.py, a program of this session over the kit's printer: by nobody's hand
-- PRESSED
import Derived.Test.YtapgfamppnhnmaaPress
import Derived.Test.YtapgfamppnhnmaaPFnExactBagOfx0
import Derived.Test.YtapgfamppnhnmaaPFnExactBagOfx7
import Derived.Test.YtapgfamppnhnmaaPFnExactBagOfx9
namespace Go.Proofs.Ytapgfamppnhnmaa.PFnExactBagOf
set_option maxRecDepth 100000
open Go.RowKit Go.Proofs.YtapgfamppnhnmaaW.PrintWords Go.Proofs.YtapgfamppnhnmaaW.PrintLast Go.Proofs.YtapgfamppnhnmaaW.PrintMore
attribute [local go_sem] max2_int min2_int max_two min_two max_three min_three max_four min_four   -- for this text's walks alone
set_option linter.unusedVariables false
set_option linter.unusedSimpArgs false

/-! ### impl_BagOf: function 18 -/
def impl_BagOf.l0 : Nat → Int → List (S74) → List (List (S25)) → Int → Int → Option (Int × (List (S74)))
 | 0, _, _, _, _, _ => none
 | k + 1, x0, x5, x9, x10, x11 => if x11 < x10 then (if 0 ≤ x11 then (if x11 < (x9.length : Int) then (if x5.length < 4398046511104 then (impl_BagOf.l0 k x0 (x5 ++ [(⟨rd_L5 x9 x11, 1⟩ : S74)]) x9 x10 (wrap64 (x11 + 1))) else (none)) else (none)) else (none)) else ((impl_gathered.f k x0 x5).bind fun bt220 => ((impl_BagOk.f k bt220.1 bt220.2).bind fun t225 => (if t225 = true then (some (bt220.1, bt220.2)) else (some (x0, ([] : List (S74)))))))
def impl_BagOf.f (k : Nat) (a0 : Int) (l1 : List (List (S25))) : Option (Int × (List (S74))) := impl_BagOf.l0 k a0 ([] : List (S74)) l1 (l1.length : Int) 0
set_option maxHeartbeats 8000000 in
theorem impl_BagOf.calls (k : Nat) (a0 : Int) (P1_ : Nat → Prop) (A1 : Option Addr) (c1 : Nat) (l1 : List (List (S25))) (r1 : Int) (r2 : List (S74)) (w : World) (hs1 : Kd.V (Kd.slice 25 k25) 70 w w.heap.size (fun k_ => P1_ k_) (.slice A1 l1.length c1) l1) (h : impl_BagOf.f k a0 l1 = some (r1, r2)) :
  Calls Try.prog 18 #[.int .i64 a0, .slice A1 l1.length c1] w fun e w' => ∃ v1_ : Value, e = .returned (.agg #[.int .i64 r1, v1_]) ∧ Kd.S k74 74 w' w.heap.size (fun _ => True) v1_ r2 ∧ Below w.heap.size w w' := by
 have hu40 := Try.underlying40
 have hu74 := Try.underlying74
 have HO1 := Aside0.mk (show Kd.V (Kd.slice 25 k25) 70 w w.heap.size (fun k_ => (P1_ k_ ∨ w.heap.size ≤ k_)) (.slice A1 l1.length c1) l1 from Kd.V_mono hs1 (fun k_ hk => .inl hk))
 have HB := Aside0.mk (Below.refl w.heap.size w)
 have H : (impl_BagOf.l0 k a0 ([] : List (S74)) l1 (l1.length : Int) 0) = some (r1, r2) := h
 clear h
 have H' := Aside0.mk H
 clear H
 go_enter Try.func18, Try.ntmps18
 go_wp2_with (first | ((with_reducible refine gate_dst (N := 4) rfl ?_); refine bx_ 4 #[.int .i64 0, .slice none 0 0] 40 ?_; intro gb215 hg w3 hbox hb; have BK215 := Aside0.mk (hbox); have GW215 := gw_ hg; have GE215 := gw_ hg; replace HO1 := Aside0.mk (Kd.V_below (Kd.V_elderB (by (with_reducible repeat (first | apply Kd.V_alloc | apply Kd.V_drewN | apply Kd.V_drew)); exact HO1.out) gb215 (Nat.le_of_eq hg.symm)) hb); replace HB := bs_ hb; clear hb hbox hg))
 go_loopg [5, 11] k (fun kq v5 v11 w' => ∃ (x5_1 : List (S74)) (x11_1 : Int), v11 = .int .i64 x11_1 ∧ Aside0 (impl_BagOf.l0 kq a0 x5_1 l1 (l1.length : Int) x11_1 = some (r1, r2)) ∧ Aside0 (kq ≤ k) ∧ Aside0 (Kd.N k74 74 w' w.heap.size (fun k_ => (P1_ k_ ∨ w.heap.size ≤ k_) ∧ k_ ≠ gb215) v5 x5_1) ∧ Aside0 (Kd.V (Kd.slice 25 k25) 70 w' w.heap.size (fun k_ => (P1_ k_ ∨ w.heap.size ≤ k_) ∧ some k_ ≠ (v5 : Value).ownBlock ∧ k_ ≠ gb215) (.slice A1 l1.length c1) l1) ∧ Aside0 (w'.heap[gb215]? = some (.cells #[.int .i64 0, (.slice none 0 0)] 40 (0, 0))) ∧ Aside0 (Below w.heap.size w w'))
 case atStart => exact ⟨(([] : List (S74))), (0), rs_, H', ⟨Nat.le_refl _⟩, ⟨by first | exact Kd.S_nil _ _ _ _ _ | exact Kd.N_nil _ _ _ _ _ | exact Kd.V_nil _ _ _ _ _ | exact Kd.Q_nil _ _ _ _ _ | exact Kd.R_nil _ _ _ _ _⟩, ⟨by (with_reducible repeat (first | apply Kd.V_alloc | apply Kd.V_drewN | apply Kd.V_drew)); exact Kd.V_mono HO1.out (fun _ hk => ⟨hk.1, ⟨(by simp [Value.ownBlock]), hk.2⟩⟩)⟩, ⟨bkx_ BK215.out⟩, ⟨bb_⟩⟩
 case round =>
  clear H'
  try clear c1
  try clear p2
  obtain ⟨x5_1, x11_1, rfl, HA, HK1, HO_5, HO_9, BK215, HB⟩ := hrel
  cases gk with
  | zero => exact absurd HA.out (by simp [impl_BagOf.l0])
  | succ k1 =>
   have H := HA.out
   clear HA
   simp only [impl_BagOf.l0] at H
   by_cases c4 : x11_1 < (l1.length : Int)
   ·rw [if_pos c4] at H
    have c4b0 : decide (x11_1 < (l1.length : Int)) = true := decide_eq_true c4
    clear c4
    by_cases c5 : 0 ≤ x11_1
    ·rw [if_pos c5] at H
     have c5b0 : decide (0 ≤ x11_1) = true := decide_eq_true c5
     clear c5
     by_cases c6 : x11_1 < (l1.length : Int)
     ·rw [if_pos c6] at H
      have c6b0 : decide (x11_1 < (l1.length : Int)) = true := decide_eq_true c6
      clear c6
      by_cases c7 : x5_1.length < 4398046511104
      ·rw [if_pos c7] at H
       have LMc7 := Aside0.mk c7
       clear c7
       obtain ⟨y217, hy217⟩ : ∃ y_ : List (S74), y_ = (x5_1 ++ [(⟨rd_L5 l1 x11_1, 1⟩ : S74)]) := ⟨_, rfl⟩
       replace H : (impl_BagOf.l0 k1 a0 y217 l1 (l1.length : Int) (wrap64 (x11_1 + 1))) = some (r1, r2) := by first | (rw [hy217]; with_reducible exact H) | (have H2_ := (Option.bind_some _ _).symm.trans H; rw [hy217]; with_reducible exact H2_) | (have H2_ := (Option.bind_some _ _).symm.trans H; with_reducible exact H2_) | with_reducible exact H | (rw [hy217]; exact H) | exact H
       have Ny217 := Aside0.mk hy217
       clear hy217
       have H' := Aside0.mk H
       clear H
       have p216 : 0 ≤ (x11_1 : Int) := od_
       have q216 : x11_1 < (l1.length : Int) := od_
       obtain ⟨ad216, A216_0, c216_0, e216, hx216_0, hl216_0, hi216_0⟩ := at_L5 (Kd.V_reads' HO_9.out).2.2 x11_1 p216 q216
       cases e216
       obtain ⟨ce216, hce216, hMe216, hcc216⟩ := Kd.V_get HO_9.out [] x11_1 p216 (by first | exact q216 | exact od_ | (have e_ := (Kd.V_reads' HO_9.out).1; omega))
       obtain ⟨ua216_0, uc216_0, rfl, ul216_0, ge216_0⟩ := Kd.FK_slice_open hMe216
       have hv216_0 := hcc216 0 _ rfl
       rw [Nat.add_zero, show ((Kd.slice 25 k25)).sz = 1 from rfl, Nat.mul_one] at hv216_0
       replace hv216_0 := Option.some.inj (hv216_0.symm.trans hx216_0)
       injection hv216_0 with hva_ hvn_ hvc_
       rw [hva_] at ge216_0
       rw [hvc_] at ul216_0
       have HL216_0 := Aside0.mk (show Kd.V k25 25 _ w.heap.size _ _ (rd_L5 l1 x11_1) from Kd.V_mk ul216_0 ge216_0)
       clear hva_ hvn_ hvc_ ge216_0 ul216_0
       clear hcc216 hce216
       have HR216_0 := Aside0.mk hi216_0
       have HC216_0 := Aside0.mk hl216_0
       clear hi216_0 hl216_0
       replace p216 := eq_true p216
       replace q216 := eq_true q216
       go_wp2_with (first | ((with_reducible refine gate_builtin (b := .append) (xs := #[.tmp 15, .tmp 18]) rfl ?_); at_builtin; refine Kd.N_append k74 (w0 := w) w.heap.size rfl (.tmp 15) (.tmp 18) 38 74 (.agg #[(.slice none 0 0), (.int .i64 0)]) 32 rfl Try.underlying38 info74 rfl (by decide) (by omega) u5 x5_1 (⟨rd_L5 l1 x11_1, 1⟩ : S74) [.slice A216_0 (rd_L5 l1 x11_1).length c216_0, .int .i64 1] (fun k_ => (P1_ k_ ∨ w.heap.size ≤ k_) ∧ k_ ≠ gb215) (fun k_ => ((fun k_ => (P1_ k_ ∨ w.heap.size ≤ k_) ∧ k_ ≠ gb215)) k_ ∧ some k_ ≠ (u5 : Value).ownBlock) rfl rfl ?aP (fun _ hk => hk) ?aF ?aO ?aB ?aS ?aL ?_; (case aP => exact (k74_mkF _ _ (⟨rd_L5 l1 x11_1, 1⟩ : S74) (Kd.V_reads' (Kd.V_mono (ok' := (fun k_ => ((fun k_ => (P1_ k_ ∨ w.heap.size ≤ k_) ∧ k_ ≠ gb215)) k_ ∧ some k_ ≠ (u5 : Value).ownBlock)) (HL216_0.out) (fun k_ hk => ⟨⟨hk.1, hk.2.2⟩, hk.2.1⟩))).2.1 (Kd.V_F (Kd.V_mono (ok' := (fun k_ => ((fun k_ => (P1_ k_ ∨ w.heap.size ≤ k_) ∧ k_ ≠ gb215)) k_ ∧ some k_ ≠ (u5 : Value).ownBlock)) (HL216_0.out) (fun k_ hk => ⟨⟨hk.1, hk.2.2⟩, hk.2.1⟩))))); (case aB => exact bb_); (case aF => exact (fun k_ hk => ⟨(.inr (Nat.le_trans (below_size bb_) hk)), Kd.freshB (g := gb215) (o := .cells #[.int .i64 0, .slice none 0 0] 40 (0, 0)) (bkx_ BK215.out) k_ hk⟩)); (case aO => exact (by (with_reducible repeat (first | apply Kd.N_alloc | apply Kd.N_drewN | apply Kd.N_drew)); exact HO_5.out)); (case aS => exact (below_size bb_)); (case aL => have := LMc7.out; omega); intro v218 w8 ho hb hg hat; rw [← Ny217.out] at ho; have HO219 := Aside0.mk (ho); replace HO_9 := Aside0.mk (Kd.V_afterv (ok := (fun k_ => (P1_ k_ ∨ w.heap.size ≤ k_) ∧ k_ ≠ gb215)) (by (with_reducible repeat (first | apply Kd.V_alloc | apply Kd.V_drewN | apply Kd.V_drew)); exact Kd.V_mono HO_9.out (fun _ hk => ⟨⟨hk.1, hk.2.2⟩, hk.2.1⟩)) hg hat); replace BK215 := Aside0.mk (blk_grown (g := gb215) (o := .cells #[.int .i64 0, .slice none 0 0] 40 (0, 0)) (bkx_ BK215.out) hg (Kd.N_ne HO_5.out BK215.out (by decide))); replace HL216_0 := Aside0.mk (Kd.V_afterv (ok := (fun k_ => (P1_ k_ ∨ w.heap.size ≤ k_) ∧ k_ ≠ gb215)) (by (with_reducible repeat (first | apply Kd.V_alloc | apply Kd.V_drewN | apply Kd.V_drew)); exact Kd.V_mono HL216_0.out (fun _ hk => ⟨⟨hk.1, hk.2.2⟩, hk.2.1⟩)) hg hat); replace HB := Aside0.mk (hb); clear HO_5; clear ho hb hg hat))
       go_roundg k1
       case measure => have := HK1.out; omega
       case rel => exact ⟨(y217), (wrap64 (x11_1 + 1)), rs_, H', ⟨by have := HK1.out; omega⟩, ⟨by (with_reducible repeat (first | apply Kd.N_alloc | apply Kd.N_drewN | apply Kd.N_drew)); exact HO219.out⟩, ⟨by (with_reducible repeat (first | apply Kd.V_alloc | apply Kd.V_drewN | apply Kd.V_drew)); exact Kd.V_mono HO_9.out (fun _ hk => ⟨hk.1.1, ⟨hk.2, hk.1.2⟩⟩)⟩, ⟨bkx_ BK215.out⟩, ⟨bb_⟩⟩
      ·rw [if_neg c7] at H
       exact absurd H (by simp)
     ·rw [if_neg c6] at H
      exact absurd H (by simp)
    ·rw [if_neg c5] at H
     exact absurd H (by simp)
   ·rw [if_neg c4] at H
    have c4b0 : decide (x11_1 < (l1.length : Int)) = false := decide_eq_false c4
    clear c4
    replace H := Option.bind_eq_some_iff.mp H
    obtain ⟨⟨t220, t221⟩, A90, H⟩ := H
    replace H : ((impl_BagOk.f k1 t220 t221).bind fun t225 => (if t225 = true then (some (t220, t221)) else (some (a0, ([] : List (S74)))))) = some (r1, r2) := H
    have A9 := Aside0.mk A90
    clear A90
    replace H := Option.bind_eq_some_iff.mp H
    obtain ⟨t225, A100, H⟩ := H
    replace H : (if t225 = true then (some (t220, t221)) else (some (a0, ([] : List (S74))))) = some (r1, r2) := H
    have A10 := Aside0.mk A100
    clear A100
    by_cases c11 : t225 = true
    ·subst c11
     have H1 : (some (t220, t221)) = some (r1, r2) := by rw [if_pos rfl] at H; exact H
     clear H
     have H := H1
     clear H1
     simp only [Option.some.injEq, Prod.mk.injEq] at H
     obtain ⟨rfl, rfl⟩ := H
     obtain ⟨Ao12, co12, eo12⟩ := Kd.N_slice HO_5.out
     subst eo12
     go_wp2_with (first | ((with_reducible refine gate_callee (f := 46) rfl ?_); refine gsL_ (some 23) Try.func46 #[.int .i64 a0, .slice Ao12 x5_1.length co12] ?_; (with_reducible refine (impl_gathered.calls k1 a0 _ _ x5_1 t220 t221 _ ?side1 ?side2 A9.out).mono ?_); (case side1 => exact ck_ (Kd.N_reads' HO_5.out).2.2); (case side2 => exact (Kd.N_reads' HO_5.out).2.1); rintro e w13 ⟨v222, rfl, ho0, hb⟩; refine ⟨_, rfl, ?_⟩; have HO223 := Aside0.mk (Kd.S_lower (Kd.S_mono (ok' := fun k_ => (P1_ k_ ∨ w.heap.size ≤ k_) ∧ some k_ ≠ (.slice Ao12 x5_1.length co12 : Value).ownBlock ∧ k_ ≠ gb215) (Kd.S_bound ho0) (fun k_ hk_ => ⟨(.inr (Nat.le_trans (below_size bb_) hk_.2.1)), (Kd.fresh' (Kd.N_lt (by (with_reducible repeat (first | apply Kd.N_alloc | apply Kd.N_drewN | apply Kd.N_drew)); exact HO_5.out)) k_ hk_.2.1), (Kd.freshB (g := gb215) (o := .cells #[.int .i64 0, .slice none 0 0] 40 (0, 0)) (bkx_ BK215.out) k_ hk_.2.1)⟩)) (below_size bb_)); replace HO_5 := Aside0.mk (Kd.N_elder' (by (with_reducible repeat (first | apply Kd.N_alloc | apply Kd.N_drewN | apply Kd.N_drew)); exact HO_5.out) (Kd.S_base ho0) hb); replace HO_9 := Aside0.mk (Kd.V_elder' (by (with_reducible repeat (first | apply Kd.V_alloc | apply Kd.V_drewN | apply Kd.V_drew)); exact HO_9.out) (Kd.S_base ho0) hb); replace BK215 := bkb_ BK215 hb; replace HB := bs_ hb; (try clear hb); (try clear hb2); (try clear hk); (try clear hi); (try clear ho0)) | ((with_reducible refine gate_dst (N := 8) rfl ?_); refine bx_ 8 #[.int .i64 0, .slice none 0 0] 40 ?_; intro gb224 hg w14 hbox hb; have BK224 := Aside0.mk (hbox); have GW224 := gw_ hg; have GE224 := gw_ hg; have NB215_224 := nl_ hg BK215; have NB224_215 := ng_ hg BK215; replace HO_5 := Aside0.mk (Kd.N_below (Kd.N_elderB (by (with_reducible repeat (first | apply Kd.N_alloc | apply Kd.N_drewN | apply Kd.N_drew)); exact HO_5.out) gb224 (Nat.le_of_eq hg.symm)) hb); replace HO_9 := Aside0.mk (Kd.V_below (Kd.V_elderB (by (with_reducible repeat (first | apply Kd.V_alloc | apply Kd.V_drewN | apply Kd.V_drew)); exact HO_9.out) gb224 (Nat.le_of_eq hg.symm)) hb); replace HO223 := Aside0.mk (Kd.S_below (Kd.S_elderB (by (with_reducible repeat (first | apply Kd.S_alloc | apply Kd.S_drewN | apply Kd.S_drew)); exact HO223.out) gb224 (Nat.le_of_eq hg.symm)) hb); replace BK215 := bkb_ BK215 hb; replace HB := bs_ hb; clear hb hbox hg; have hnb15 := NB224_215.out; have hnc15 := NB215_224.out; obtain ⟨hcz16_0, hcz16_1, hfz16_0, hfz16_1⟩ := b2_ BK224; obtain ⟨Ao17, co17, eo17⟩ := Kd.S_slice HO223.out; subst eo17) | ((with_reducible refine gate_callee (f := 47) rfl ?_); refine gsL_ (some 25) Try.func47 #[.agg #[.int .i64 t220, .slice Ao17 t221.length co17]] ?_; (with_reducible refine (impl_BagOk.calls k1 t220 _ _ t221 true _ ?side1 ?side2 A10.out).mono ?_); (case side1 => refine (Kd.S_reads' (e := 74) (base := w.heap.size) (ok := fun k_ => (((P1_ k_ ∨ w.heap.size ≤ k_) ∧ (some k_ ≠ (.slice Ao12 x5_1.length co12 : Value).ownBlock ∧ k_ ≠ gb215)) ∧ k_ ≠ gb224)) (n := t221.length) (c := co17) ?_).2.2; exact (by (with_reducible repeat (first | apply Kd.S_alloc | apply Kd.S_drewN | apply Kd.S_drew)); exact (Kd.S_mono (Kd.S_far (p := ⟨gb224, 1, none⟩) (Kd.S_far (p := ⟨gb224, 0, none⟩) (Kd.S_mono HO223.out (fun k_ hk => (⟨hk, hk.2⟩ : _ ∧ k_ ≠ gb224))) (fun _ hk => hk.2) (.int .i64 t220)) (fun _ hk => hk.2) (.slice Ao17 t221.length co17)) (fun _ h_ => h_.1)))); (case side2 => exact (Kd.S_reads' HO223.out).2.1); rintro e w18 ⟨rfl, hb⟩; refine ⟨_, rfl, ?_⟩; replace HO_5 := Aside0.mk (Kd.N_below (by (with_reducible repeat (first | apply Kd.N_alloc | apply Kd.N_drewN | apply Kd.N_drew)); exact (Kd.N_mono (Kd.N_far (p := ⟨gb224, 1, none⟩) (Kd.N_far (p := ⟨gb224, 0, none⟩) (Kd.N_mono HO_5.out (fun k_ hk => (⟨hk, hk.2⟩ : _ ∧ k_ ≠ gb224))) (fun _ hk => hk.2) (.int .i64 t220)) (fun _ hk => hk.2) (.slice Ao17 t221.length co17)) (fun _ h_ => h_.1))) hb); replace HO_9 := Aside0.mk (Kd.V_below (by (with_reducible repeat (first | apply Kd.V_alloc | apply Kd.V_drewN | apply Kd.V_drew)); exact (Kd.V_mono (Kd.V_far (p := ⟨gb224, 1, none⟩) (Kd.V_far (p := ⟨gb224, 0, none⟩) (Kd.V_mono HO_9.out (fun k_ hk => (⟨hk, hk.2⟩ : _ ∧ k_ ≠ gb224))) (fun _ hk => hk.2) (.int .i64 t220)) (fun _ hk => hk.2) (.slice Ao17 t221.length co17)) (fun _ h_ => h_.1))) hb); replace HO223 := Aside0.mk (Kd.S_below (by (with_reducible repeat (first | apply Kd.S_alloc | apply Kd.S_drewN | apply Kd.S_drew)); exact (Kd.S_mono (Kd.S_far (p := ⟨gb224, 1, none⟩) (Kd.S_far (p := ⟨gb224, 0, none⟩) (Kd.S_mono HO223.out (fun k_ hk => (⟨hk, hk.2⟩ : _ ∧ k_ ≠ gb224))) (fun _ hk => hk.2) (.int .i64 t220)) (fun _ hk => hk.2) (.slice Ao17 t221.length co17)) (fun _ h_ => h_.1))) hb); replace BK215 := Aside0.mk (blk_below (g := gb215) (o := .cells #[.int .i64 0, .slice none 0 0] 40 (0, 0)) (bf2_ NB215_224 (bkx_ BK215.out)) hb); replace BK224 := Aside0.mk (blk_below (g := gb224) (o := .cells #[.int .i64 t220, .slice Ao17 t221.length co17] 40 (0, 0)) (bp2_ (bkx_ BK224.out)) hb); replace HB := bs_ hb; (try clear hb); (try clear hb2); (try clear hk); (try clear hi); obtain ⟨hcz19_0, hcz19_1, hfz19_0, hfz19_1⟩ := b2_ BK224; obtain ⟨hcz20_0, hcz20_1, hfz20_0, hfz20_1⟩ := b2_ BK215))
     refine bodyPost_ret (results_cell_row rfl _ _ gb215 40 #[.int .i64 t220, .slice Ao17 t221.length co17] (0, 0) _ rfl (bp2_ (bkx_ BK215.out)) Try.underlying40 rfl (by kernel_rfl)) rfl ?_
     exact ⟨_, by first | rfl | (simp [errW_none, errW_some] <;> rfl) | (simp [*, errW_none, errW_some] <;> rfl), by (with_reducible repeat (first | apply Kd.S_alloc | apply Kd.S_drewN | apply Kd.S_drew)); exact Kd.S_mono (Kd.S_far (p := ⟨gb215, 1, none⟩) (Kd.S_far (p := ⟨gb215, 0, none⟩) (Kd.S_mono HO223.out (fun k_ hk => (⟨hk, hk.1.2.2⟩ : _ ∧ k_ ≠ gb215))) (fun _ hk => hk.2) (.int .i64 t220)) (fun _ hk => hk.2) (.slice Ao17 t221.length co17)) (fun _ _ => trivial), by repeat (first | (with_reducible first | exact HB.out | apply below_alloc | apply pw_below_drewN | apply below_drew1 | refine below_set ?_ GE215.out | refine below_set ?_ GE224.out) | exact HB.out)⟩
    ·replace c11 := Bool.eq_false_iff.mpr c11
     subst c11
     have H1 : (some (a0, ([] : List (S74)))) = some (r1, r2) := by rw [if_neg (show ¬ (false = true) by decide)] at H; exact H
     clear H
     have H := H1
     clear H1
     simp only [Option.some.injEq, Prod.mk.injEq] at H
     obtain ⟨rfl, rfl⟩ := H
     obtain ⟨Ao21, co21, eo21⟩ := Kd.N_slice HO_5.out
     subst eo21
     go_wp2_with (first | ((with_reducible refine gate_callee (f := 46) rfl ?_); refine gsL_ (some 23) Try.func46 #[.int .i64 a0, .slice Ao21 x5_1.length co21] ?_; (with_reducible refine (impl_gathered.calls k1 a0 _ _ x5_1 t220 t221 _ ?side1 ?side2 A9.out).mono ?_); (case side1 => exact ck_ (Kd.N_reads' HO_5.out).2.2); (case side2 => exact (Kd.N_reads' HO_5.out).2.1); rintro e w22 ⟨v222, rfl, ho0, hb⟩; refine ⟨_, rfl, ?_⟩; have HO223 := Aside0.mk (Kd.S_lower (Kd.S_mono (ok' := fun k_ => (P1_ k_ ∨ w.heap.size ≤ k_) ∧ some k_ ≠ (.slice Ao21 x5_1.length co21 : Value).ownBlock ∧ k_ ≠ gb215) (Kd.S_bound ho0) (fun k_ hk_ => ⟨(.inr (Nat.le_trans (below_size bb_) hk_.2.1)), (Kd.fresh' (Kd.N_lt (by (with_reducible repeat (first | apply Kd.N_alloc | apply Kd.N_drewN | apply Kd.N_drew)); exact HO_5.out)) k_ hk_.2.1), (Kd.freshB (g := gb215) (o := .cells #[.int .i64 0, .slice none 0 0] 40 (0, 0)) (bkx_ BK215.out) k_ hk_.2.1)⟩)) (below_size bb_)); replace HO_5 := Aside0.mk (Kd.N_elder' (by (with_reducible repeat (first | apply Kd.N_alloc | apply Kd.N_drewN | apply Kd.N_drew)); exact HO_5.out) (Kd.S_base ho0) hb); replace HO_9 := Aside0.mk (Kd.V_elder' (by (with_reducible repeat (first | apply Kd.V_alloc | apply Kd.V_drewN | apply Kd.V_drew)); exact HO_9.out) (Kd.S_base ho0) hb); replace BK215 := bkb_ BK215 hb; replace HB := bs_ hb; (try clear hb); (try clear hb2); (try clear hk); (try clear hi); (try clear ho0)) | ((with_reducible refine gate_dst (N := 8) rfl ?_); refine bx_ 8 #[.int .i64 0, .slice none 0 0] 40 ?_; intro gb224 hg w23 hbox hb; have BK224 := Aside0.mk (hbox); have GW224 := gw_ hg; have GE224 := gw_ hg; have NB215_224 := nl_ hg BK215; have NB224_215 := ng_ hg BK215; replace HO_5 := Aside0.mk (Kd.N_below (Kd.N_elderB (by (with_reducible repeat (first | apply Kd.N_alloc | apply Kd.N_drewN | apply Kd.N_drew)); exact HO_5.out) gb224 (Nat.le_of_eq hg.symm)) hb); replace HO_9 := Aside0.mk (Kd.V_below (Kd.V_elderB (by (with_reducible repeat (first | apply Kd.V_alloc | apply Kd.V_drewN | apply Kd.V_drew)); exact HO_9.out) gb224 (Nat.le_of_eq hg.symm)) hb); replace HO223 := Aside0.mk (Kd.S_below (Kd.S_elderB (by (with_reducible repeat (first | apply Kd.S_alloc | apply Kd.S_drewN | apply Kd.S_drew)); exact HO223.out) gb224 (Nat.le_of_eq hg.symm)) hb); replace BK215 := bkb_ BK215 hb; replace HB := bs_ hb; clear hb hbox hg; have hnb24 := NB224_215.out; have hnc24 := NB215_224.out; obtain ⟨hcz25_0, hcz25_1, hfz25_0, hfz25_1⟩ := b2_ BK224; obtain ⟨Ao26, co26, eo26⟩ := Kd.S_slice HO223.out; subst eo26) | ((with_reducible refine gate_callee (f := 47) rfl ?_); refine gsL_ (some 25) Try.func47 #[.agg #[.int .i64 t220, .slice Ao26 t221.length co26]] ?_; (with_reducible refine (impl_BagOk.calls k1 t220 _ _ t221 false _ ?side1 ?side2 A10.out).mono ?_); (case side1 => refine (Kd.S_reads' (e := 74) (base := w.heap.size) (ok := fun k_ => (((P1_ k_ ∨ w.heap.size ≤ k_) ∧ (some k_ ≠ (.slice Ao21 x5_1.length co21 : Value).ownBlock ∧ k_ ≠ gb215)) ∧ k_ ≠ gb224)) (n := t221.length) (c := co26) ?_).2.2; exact (by (with_reducible repeat (first | apply Kd.S_alloc | apply Kd.S_drewN | apply Kd.S_drew)); exact (Kd.S_mono (Kd.S_far (p := ⟨gb224, 1, none⟩) (Kd.S_far (p := ⟨gb224, 0, none⟩) (Kd.S_mono HO223.out (fun k_ hk => (⟨hk, hk.2⟩ : _ ∧ k_ ≠ gb224))) (fun _ hk => hk.2) (.int .i64 t220)) (fun _ hk => hk.2) (.slice Ao26 t221.length co26)) (fun _ h_ => h_.1)))); (case side2 => exact (Kd.S_reads' HO223.out).2.1); rintro e w27 ⟨rfl, hb⟩; refine ⟨_, rfl, ?_⟩; replace HO_5 := Aside0.mk (Kd.N_below (by (with_reducible repeat (first | apply Kd.N_alloc | apply Kd.N_drewN | apply Kd.N_drew)); exact (Kd.N_mono (Kd.N_far (p := ⟨gb224, 1, none⟩) (Kd.N_far (p := ⟨gb224, 0, none⟩) (Kd.N_mono HO_5.out (fun k_ hk => (⟨hk, hk.2⟩ : _ ∧ k_ ≠ gb224))) (fun _ hk => hk.2) (.int .i64 t220)) (fun _ hk => hk.2) (.slice Ao26 t221.length co26)) (fun _ h_ => h_.1))) hb); replace HO_9 := Aside0.mk (Kd.V_below (by (with_reducible repeat (first | apply Kd.V_alloc | apply Kd.V_drewN | apply Kd.V_drew)); exact (Kd.V_mono (Kd.V_far (p := ⟨gb224, 1, none⟩) (Kd.V_far (p := ⟨gb224, 0, none⟩) (Kd.V_mono HO_9.out (fun k_ hk => (⟨hk, hk.2⟩ : _ ∧ k_ ≠ gb224))) (fun _ hk => hk.2) (.int .i64 t220)) (fun _ hk => hk.2) (.slice Ao26 t221.length co26)) (fun _ h_ => h_.1))) hb); replace HO223 := Aside0.mk (Kd.S_below (by (with_reducible repeat (first | apply Kd.S_alloc | apply Kd.S_drewN | apply Kd.S_drew)); exact (Kd.S_mono (Kd.S_far (p := ⟨gb224, 1, none⟩) (Kd.S_far (p := ⟨gb224, 0, none⟩) (Kd.S_mono HO223.out (fun k_ hk => (⟨hk, hk.2⟩ : _ ∧ k_ ≠ gb224))) (fun _ hk => hk.2) (.int .i64 t220)) (fun _ hk => hk.2) (.slice Ao26 t221.length co26)) (fun _ h_ => h_.1))) hb); replace BK215 := Aside0.mk (blk_below (g := gb215) (o := .cells #[.int .i64 0, .slice none 0 0] 40 (0, 0)) (bf2_ NB215_224 (bkx_ BK215.out)) hb); replace BK224 := Aside0.mk (blk_below (g := gb224) (o := .cells #[.int .i64 t220, .slice Ao26 t221.length co26] 40 (0, 0)) (bp2_ (bkx_ BK224.out)) hb); replace HB := bs_ hb; (try clear hb); (try clear hb2); (try clear hk); (try clear hi); obtain ⟨hcz28_0, hcz28_1, hfz28_0, hfz28_1⟩ := b2_ BK215))
     refine bodyPost_ret (results_cell_row rfl _ _ gb215 40 #[.int .i64 a0, .slice none 0 0] (0, 0) _ rfl (bp2_ (bkx_ BK215.out)) Try.underlying40 rfl (by kernel_rfl)) rfl ?_
     exact ⟨_, by first | rfl | (simp [errW_none, errW_some] <;> rfl) | (simp [*, errW_none, errW_some] <;> rfl), by first | exact Kd.S_nil _ _ _ _ _ | exact Kd.N_nil _ _ _ _ _ | exact Kd.V_nil _ _ _ _ _ | exact Kd.Q_nil _ _ _ _ _ | exact Kd.R_nil _ _ _ _ _, by repeat (first | (with_reducible first | exact HB.out | apply below_alloc | apply pw_below_drewN | apply below_drew1 | refine below_set ?_ GE215.out | refine below_set ?_ GE224.out) | exact HB.out)⟩

/-! ### laws_eqValue: function 39 -/
def laws_eqValue.f (a0_0 : Int) (a0_1 : Int) (a0_2 : ByteArray) (a1_0 : Int) (a1_1 : Int) (a1_2 : ByteArray) : Option (Bool) := if a0_0 = a1_0 then (if a0_1 = a1_1 then (if a0_2.toList = a1_2.toList then (some true) else (some false)) else (some false)) else (some false)
set_option maxHeartbeats 8000000 in
theorem laws_eqValue.calls (a0_0 : Int) (a0_1 : Int) (a0_2 : ByteArray) (a1_0 : Int) (a1_1 : Int) (a1_2 : ByteArray) (r : Bool) (w : World) (h : laws_eqValue.f a0_0 a0_1 a0_2 a1_0 a1_1 a1_2 = some r) :
  Calls Try.prog 39 #[.agg #[.int .i64 a0_0, .int .i64 a0_1, .string a0_2], .agg #[.int .i64 a1_0, .int .i64 a1_1, .string a1_2]] w fun e w' => e = .returned (.bool r) ∧ Below w.heap.size w w' := by
 have hu25 := Try.underlying25
 have HB := Aside0.mk (Below.refl w.heap.size w)
 have H : (if a0_0 = a1_0 then (if a0_1 = a1_1 then (if a0_2.toList = a1_2.toList then (some true) else (some false)) else (some false)) else (some false)) = some r := h
 clear h
 by_cases c3 : a0_0 = a1_0
 ·rw [if_pos c3] at H
  have c3b0 : (a0_0 == a1_0) = true := beq_iff_eq.mpr c3
  have c3b1 : (a0_0 != a1_0) = false := bne_eq_false_iff_eq.mpr c3
  clear c3
  by_cases c4 : a0_1 = a1_1
  ·rw [if_pos c4] at H
   have c4b0 : (a0_1 == a1_1) = true := beq_iff_eq.mpr c4
   have c4b1 : (a0_1 != a1_1) = false := bne_eq_false_iff_eq.mpr c4
   clear c4
   by_cases c5 : a0_2.toList = a1_2.toList
   ·rw [if_pos c5] at H
    have c5b0 : (a0_2.toList == a1_2.toList) = true := beq_iff_eq.mpr c5
    have c5b1 : (a0_2.toList != a1_2.toList) = false := bne_eq_false_iff_eq.mpr c5
    clear c5
    obtain rfl := Option.some.inj H
    go_enter Try.func39, Try.ntmps39
    go_wp2_with (first | ((with_reducible refine gate_dst (N := 2) rfl ?_); refine bx_ 2 #[.int .i64 a0_0, .int .i64 a0_1, .string a0_2] 25 ?_; intro gb226 hg w6 hbox hb; have BK226 := Aside0.mk (hbox); have GW226 := gw_ hg; have GE226 := gw_ hg; replace HB := bs_ hb; clear hb hbox hg) | ((with_reducible refine gate_dst (N := 3) rfl ?_); refine bx_ 3 #[.int .i64 a1_0, .int .i64 a1_1, .string a1_2] 25 ?_; intro gb227 hg w7 hbox hb; have BK227 := Aside0.mk (hbox); have GW227 := gw_ hg; have GE227 := gw_ hg; have NB226_227 := nl_ hg BK226; have NB227_226 := ng_ hg BK226; replace BK226 := bkb_ BK226 hb; replace HB := bs_ hb; clear hb hbox hg; have hnb8 := NB226_227.out; have hnc8 := NB227_226.out; obtain ⟨hcz9_0, hcz9_1, hcz9_2, hfz9_0, hfz9_1, hfz9_2⟩ := b3_ BK226; obtain ⟨hcz10_0, hcz10_1, hcz10_2, hfz10_0, hfz10_1, hfz10_2⟩ := b3_ BK227))
    go_ret
    exact ⟨er_, bb_⟩
   ·rw [if_neg c5] at H
    have c5b0 : (a0_2.toList == a1_2.toList) = false := beq_eq_false_iff_ne.mpr c5
    have c5b1 : (a0_2.toList != a1_2.toList) = true := bne_iff_ne.mpr c5
    obtain rfl := Option.some.inj H
    go_enter Try.func39, Try.ntmps39
    go_wp2_with (first | ((with_reducible refine gate_dst (N := 2) rfl ?_); refine bx_ 2 #[.int .i64 a0_0, .int .i64 a0_1, .string a0_2] 25 ?_; intro gb226 hg w11 hbox hb; have BK226 := Aside0.mk (hbox); have GW226 := gw_ hg; have GE226 := gw_ hg; replace HB := bs_ hb; clear hb hbox hg) | ((with_reducible refine gate_dst (N := 3) rfl ?_); refine bx_ 3 #[.int .i64 a1_0, .int .i64 a1_1, .string a1_2] 25 ?_; intro gb227 hg w12 hbox hb; have BK227 := Aside0.mk (hbox); have GW227 := gw_ hg; have GE227 := gw_ hg; have NB226_227 := nl_ hg BK226; have NB227_226 := ng_ hg BK226; replace BK226 := bkb_ BK226 hb; replace HB := bs_ hb; clear hb hbox hg; have hnb13 := NB226_227.out; have hnc13 := NB227_226.out; obtain ⟨hcz14_0, hcz14_1, hcz14_2, hfz14_0, hfz14_1, hfz14_2⟩ := b3_ BK226; obtain ⟨hcz15_0, hcz15_1, hcz15_2, hfz15_0, hfz15_1, hfz15_2⟩ := b3_ BK227))
    go_ret
    exact ⟨er_, bb_⟩
  ·rw [if_neg c4] at H
   have c4b0 : (a0_1 == a1_1) = false := beq_eq_false_iff_ne.mpr c4
   have c4b1 : (a0_1 != a1_1) = true := bne_iff_ne.mpr c4
   obtain rfl := Option.some.inj H
   go_enter Try.func39, Try.ntmps39
   go_wp2_with (first | ((with_reducible refine gate_dst (N := 2) rfl ?_); refine bx_ 2 #[.int .i64 a0_0, .int .i64 a0_1, .string a0_2] 25 ?_; intro gb226 hg w16 hbox hb; have BK226 := Aside0.mk (hbox); have GW226 := gw_ hg; have GE226 := gw_ hg; replace HB := bs_ hb; clear hb hbox hg) | ((with_reducible refine gate_dst (N := 3) rfl ?_); refine bx_ 3 #[.int .i64 a1_0, .int .i64 a1_1, .string a1_2] 25 ?_; intro gb227 hg w17 hbox hb; have BK227 := Aside0.mk (hbox); have GW227 := gw_ hg; have GE227 := gw_ hg; have NB226_227 := nl_ hg BK226; have NB227_226 := ng_ hg BK226; replace BK226 := bkb_ BK226 hb; replace HB := bs_ hb; clear hb hbox hg; have hnb18 := NB226_227.out; have hnc18 := NB227_226.out; obtain ⟨hcz19_0, hcz19_1, hcz19_2, hfz19_0, hfz19_1, hfz19_2⟩ := b3_ BK226; obtain ⟨hcz20_0, hcz20_1, hcz20_2, hfz20_0, hfz20_1, hfz20_2⟩ := b3_ BK227))
   go_ret
   exact ⟨er_, bb_⟩
 ·rw [if_neg c3] at H
  have c3b0 : (a0_0 == a1_0) = false := beq_eq_false_iff_ne.mpr c3
  have c3b1 : (a0_0 != a1_0) = true := bne_iff_ne.mpr c3
  obtain rfl := Option.some.inj H
  go_enter Try.func39, Try.ntmps39
  go_wp2_with (first | ((with_reducible refine gate_dst (N := 2) rfl ?_); refine bx_ 2 #[.int .i64 a0_0, .int .i64 a0_1, .string a0_2] 25 ?_; intro gb226 hg w21 hbox hb; have BK226 := Aside0.mk (hbox); have GW226 := gw_ hg; have GE226 := gw_ hg; replace HB := bs_ hb; clear hb hbox hg) | ((with_reducible refine gate_dst (N := 3) rfl ?_); refine bx_ 3 #[.int .i64 a1_0, .int .i64 a1_1, .string a1_2] 25 ?_; intro gb227 hg w22 hbox hb; have BK227 := Aside0.mk (hbox); have GW227 := gw_ hg; have GE227 := gw_ hg; have NB226_227 := nl_ hg BK226; have NB227_226 := ng_ hg BK226; replace BK226 := bkb_ BK226 hb; replace HB := bs_ hb; clear hb hbox hg; have hnb23 := NB226_227.out; have hnc23 := NB227_226.out; obtain ⟨hcz24_0, hcz24_1, hcz24_2, hfz24_0, hfz24_1, hfz24_2⟩ := b3_ BK226; obtain ⟨hcz25_0, hcz25_1, hcz25_2, hfz25_0, hfz25_1, hfz25_2⟩ := b3_ BK227))
  go_ret
  exact ⟨er_, bb_⟩

/-! ### laws_eqValueS: function 49 -/
def laws_eqValueS.l0 : Nat → List (S25) → List (S25) → Int → Option (Bool)
 | 0, _, _, _ => none
 | k + 1, x0, x1, x5 => if x5 < (x0.length : Int) then (if 0 ≤ x5 then (if x5 < (x1.length : Int) then ((laws_eqValue.f ((rd_T25 x0 x5).f0) ((rd_T25 x0 x5).f1) ((rd_T25 x0 x5).f2) ((rd_T25 x1 x5).f0) ((rd_T25 x1 x5).f1) ((rd_T25 x1 x5).f2)).bind fun t230 => (if t230 = true then (laws_eqValueS.l0 k x0 x1 (wrap64 (x5 + 1))) else (some false))) else (none)) else (none)) else (some true)
def laws_eqValueS.f (k : Nat) (l0 : List (S25)) (l1 : List (S25)) : Option (Bool) := if (l0.length : Int) = (l1.length : Int) then (laws_eqValueS.l0 k l0 l1 0) else (some false)
def laws_eqValueS.T6 : Bool × List (List Nat × List Nat) := (true, [([], []), ([], []), ([0, 1], [0, 1]), ([2], [2]), ([], []), ([], []), ([4, 5], [4, 5]), ([6], [6]), ([3, 7], [3, 7]), ([8], [8])])
def laws_eqValueS.B6 : List Nat := [0, 0, 3, 7, 0, 0, 48, 112, 255, 511]
theorem laws_eqValueS.tab6 : rtab .any (opsOf Try.f49 6) = laws_eqValueS.T6 := by kernel_rfl
theorem laws_eqValueS.bits6 : waitsOk laws_eqValueS.T6.2 laws_eqValueS.B6 = true := by kernel_rfl
set_option maxHeartbeats 8000000 in
theorem laws_eqValueS.calls (k : Nat) (A0 : Option Addr) (c0 : Nat) (l0 : List (S25)) (A1 : Option Addr) (c1 : Nat) (l1 : List (S25)) (r : Bool) (w : World) (hr0 : Kd.C k25 w A0 l0.length l0) (hc0 : l0.length ≤ c0) (hr1 : Kd.C k25 w A1 l1.length l1) (hc1 : l1.length ≤ c1) (h : laws_eqValueS.f k l0 l1 = some r) :
  Calls Try.prog 49 #[.slice A0 l0.length c0, .slice A1 l1.length c1] w fun e w' => e = .returned (.bool r) ∧ Below w.heap.size w w' := by
 have hu25 := Try.underlying25
 have HR0 := Aside0.mk hr0
 have HC0 := Aside0.mk hc0
 clear hr0 hc0
 have HR1 := Aside0.mk hr1
 have HC1 := Aside0.mk hc1
 clear hr1 hc1
 have HB := Aside0.mk (Below.refl w.heap.size w)
 have H : (if (l0.length : Int) = (l1.length : Int) then (laws_eqValueS.l0 k l0 l1 0) else (some false)) = some r := h
 clear h
 by_cases c3 : (l0.length : Int) = (l1.length : Int)
 ·rw [if_pos c3] at H
  have c3b0 : ((l0.length : Int) == (l1.length : Int)) = true := beq_iff_eq.mpr c3
  have c3b1 : ((l0.length : Int) != (l1.length : Int)) = false := bne_eq_false_iff_eq.mpr c3
  have c3b2 : (l0.length == l1.length) = true := by first | simpa using c3 | (simp at c3 ⊢; omega)
  clear c3
  have H' := Aside0.mk H
  clear H
  go_enter Try.func49, Try.ntmps49
  go_wp2
  go_loopg [5] k (fun kq v5 w' => ∃ (x5_1 : Int), v5 = .int .i64 x5_1 ∧ Aside0 (laws_eqValueS.l0 kq l0 l1 x5_1 = some r) ∧ Aside0 (kq ≤ k) ∧ Aside0 (Below w.heap.size w w'))
  case atStart => exact ⟨(0), rs_, H', ⟨Nat.le_refl _⟩, ⟨bb_⟩⟩
  case round =>
   clear H'
   try clear c1
   try clear p2
   try clear c3
   try clear c3b0
   try clear c3b1
   try clear c3b2
   obtain ⟨x5_1, rfl, HA, HK1, HB⟩ := hrel
   cases gk with
   | zero => exact absurd HA.out (by simp [laws_eqValueS.l0])
   | succ k1 =>
    have H := HA.out
    clear HA
    simp only [laws_eqValueS.l0] at H
    by_cases c4 : x5_1 < (l0.length : Int)
    ·rw [if_pos c4] at H
     have c4b0 : decide (x5_1 < (l0.length : Int)) = true := decide_eq_true c4
     clear c4
     by_cases c5 : 0 ≤ x5_1
     ·rw [if_pos c5] at H
      have c5b0 : decide (0 ≤ x5_1) = true := decide_eq_true c5
      clear c5
      by_cases c6 : x5_1 < (l1.length : Int)
      ·rw [if_pos c6] at H
       have c6b0 : decide (x5_1 < (l1.length : Int)) = true := decide_eq_true c6
       clear c6
       replace H := Option.bind_eq_some_iff.mp H
       obtain ⟨t230, A70, H⟩ := H
       replace H : (if t230 = true then (laws_eqValueS.l0 k1 l0 l1 (wrap64 (x5_1 + 1))) else (some false)) = some r := H
       have A7 := Aside0.mk A70
       clear A70
       by_cases c8 : t230 = true
       ·subst c8
        have H1 : (laws_eqValueS.l0 k1 l0 l1 (wrap64 (x5_1 + 1))) = some r := by rw [if_pos rfl] at H; exact H
        clear H
        have H := H1
        clear H1
        have H' := Aside0.mk H
        clear H
        try go_wp2
        replace HB := Aside0.mk (below_drew1 HB.out)
        have p228 : 0 ≤ (x5_1 : Int) := od_
        have q228 : x5_1 < (l0.length : Int) := od_
        obtain ⟨ad228, e228, hx228_0, hx228_1, hx228_2⟩ := at_T25 HR0.out x5_1 p228 q228
        have hw228_2 := hx228_2
        have hw228_1 := hx228_1
        have hw228_0 := hx228_0
        cases e228
        replace hx228_0 := hb_ HB hx228_0
        replace hx228_1 := hb_ HB hx228_1
        replace hx228_2 := hb_ HB hx228_2
        replace p228 := eq_true p228
        replace q228 := eq_true q228
        have p229 : 0 ≤ (x5_1 : Int) := od_
        have q229 : x5_1 < (l1.length : Int) := od_
        obtain ⟨ad229, e229, hx229_0, hx229_1, hx229_2⟩ := at_T25 HR1.out x5_1 p229 q229
        have hw229_2 := hx229_2
        have hw229_1 := hx229_1
        have hw229_0 := hx229_0
        cases e229
        replace hx229_0 := hb_ HB hx229_0
        replace hx229_1 := hb_ HB hx229_1
        replace hx229_2 := hb_ HB hx229_2
        replace p229 := eq_true p229
        replace q229 := eq_true q229
        refine start_ (n := 10) (S := fun w' => w'.cell? (ad228.add ((x5_1).toNat * 3)) = some (.int .i64 ((rd_T25 l0 x5_1).f0)) ∧ w'.cell? ⟨(ad228.add ((x5_1).toNat * 3)).block, (ad228.add ((x5_1).toNat * 3)).off + 1, none⟩ = some (.int .i64 ((rd_T25 l0 x5_1).f1)) ∧ w'.cell? ⟨(ad228.add ((x5_1).toNat * 3)).block, (ad228.add ((x5_1).toNat * 3)).off + 2, none⟩ = some (.string ((rd_T25 l0 x5_1).f2)) ∧ w'.cell? (ad229.add ((x5_1).toNat * 3)) = some (.int .i64 ((rd_T25 l1 x5_1).f0)) ∧ w'.cell? ⟨(ad229.add ((x5_1).toNat * 3)).block, (ad229.add ((x5_1).toNat * 3)).off + 1, none⟩ = some (.int .i64 ((rd_T25 l1 x5_1).f1)) ∧ w'.cell? ⟨(ad229.add ((x5_1).toNat * 3)).block, (ad229.add ((x5_1).toNat * 3)).off + 2, none⟩ = some (.string ((rd_T25 l1 x5_1).f2))) (ds := []) (tf 0 10) (by kernel_rfl) rfl rfl ⟨(hb_ HB hw228_0), (hb_ HB hw228_1), (hb_ HB hw228_2), (hb_ HB hw229_0), (hb_ HB hw229_1), (hb_ HB hw229_2)⟩ (fun hHeld => ?_); refine with_tabW laws_eqValueS.tab6 laws_eqValueS.bits6 (fun HT_ HW_ => ?_)
        generalize wr.drew = w9 at HB hx228_0 hx228_1 hx228_2 hx229_0 hx229_1 hx229_2 hHeld ⊢
        iterate 3 (refine pl_ ?_)
        refine plx_ 4 #[true, true, true, false, true, false, false, false, false, false] ?_
        refine plx_ 5 #[true, true, true, false, true, true, false, false, false, false] ?_
        refine plx_ 6 #[true, true, true, false, true, true, true, false, false, false] ?_
        refine tlx_ 3 (tf 7 3) ?_
        refine tl_ ?_
        refine one_ (i := 8) (N := some 25) (tf 9 1) rfl rfl (one_of HT_.out (by kernel_rfl)) (by decide) (fun K hK => ?_)
        refine gs_ Try.func39 #[.agg #[.int .i64 ((rd_T25 l0 x5_1).f0), .int .i64 ((rd_T25 l0 x5_1).f1), .string ((rd_T25 l0 x5_1).f2)], .agg #[.int .i64 ((rd_T25 l1 x5_1).f0), .int .i64 ((rd_T25 l1 x5_1).f1), .string ((rd_T25 l1 x5_1).f2)]] ?_
        with_reducible refine (laws_eqValue.calls ((rd_T25 l0 x5_1).f0) ((rd_T25 l0 x5_1).f1) ((rd_T25 l0 x5_1).f2) ((rd_T25 l1 x5_1).f0) ((rd_T25 l1 x5_1).f1) ((rd_T25 l1 x5_1).f2) true _ A7.out).mono ?_
        rintro e w10 ⟨rfl, hb⟩
        refine ⟨_, rfl, ?_⟩
        replace HB := bs_ hb
        (try clear hb)
        (try clear hb2)
        (try clear hk)
        (try clear hi)
        refine hK.out _ _ ⟨(have h_ := hb_ HB hw228_0; h_), (have h_ := hb_ HB hw228_1; h_), (have h_ := hb_ HB hw228_2; h_), (have h_ := hb_ HB hw229_0; h_), (have h_ := hb_ HB hw229_1; h_), (have h_ := hb_ HB hw229_2; h_)⟩ (fun hHeld => ?_)
        clear hK K
        refine nm_ ?_
        refine plx_ 9 (tf 10 0) ?_
        refine done_ (done_of HT_.out (by kernel_rfl)) ?_
        try go_wp2
        go_roundg k1
        case measure => have := HK1.out; omega
        case rel => exact ⟨(wrap64 (x5_1 + 1)), rs_, H', ⟨by have := HK1.out; omega⟩, ⟨bb_⟩⟩
       ·replace c8 := Bool.eq_false_iff.mpr c8
        subst c8
        have H1 : (some false) = some r := by rw [if_neg (show ¬ (false = true) by decide)] at H; exact H
        clear H
        have H := H1
        clear H1
        obtain rfl := Option.some.inj H
        try go_wp2
        replace HB := Aside0.mk (below_drew1 HB.out)
        have p228 : 0 ≤ (x5_1 : Int) := od_
        have q228 : x5_1 < (l0.length : Int) := od_
        obtain ⟨ad228, e228, hx228_0, hx228_1, hx228_2⟩ := at_T25 HR0.out x5_1 p228 q228
        have hw228_2 := hx228_2
        have hw228_1 := hx228_1
        have hw228_0 := hx228_0
        cases e228
        replace hx228_0 := hb_ HB hx228_0
        replace hx228_1 := hb_ HB hx228_1
        replace hx228_2 := hb_ HB hx228_2
        replace p228 := eq_true p228
        replace q228 := eq_true q228
        have p229 : 0 ≤ (x5_1 : Int) := od_
        have q229 : x5_1 < (l1.length : Int) := od_
        obtain ⟨ad229, e229, hx229_0, hx229_1, hx229_2⟩ := at_T25 HR1.out x5_1 p229 q229
        have hw229_2 := hx229_2
        have hw229_1 := hx229_1
        have hw229_0 := hx229_0
        cases e229
        replace hx229_0 := hb_ HB hx229_0
        replace hx229_1 := hb_ HB hx229_1
        replace hx229_2 := hb_ HB hx229_2
        replace p229 := eq_true p229
        replace q229 := eq_true q229
        refine start_ (n := 10) (S := fun w' => w'.cell? (ad228.add ((x5_1).toNat * 3)) = some (.int .i64 ((rd_T25 l0 x5_1).f0)) ∧ w'.cell? ⟨(ad228.add ((x5_1).toNat * 3)).block, (ad228.add ((x5_1).toNat * 3)).off + 1, none⟩ = some (.int .i64 ((rd_T25 l0 x5_1).f1)) ∧ w'.cell? ⟨(ad228.add ((x5_1).toNat * 3)).block, (ad228.add ((x5_1).toNat * 3)).off + 2, none⟩ = some (.string ((rd_T25 l0 x5_1).f2)) ∧ w'.cell? (ad229.add ((x5_1).toNat * 3)) = some (.int .i64 ((rd_T25 l1 x5_1).f0)) ∧ w'.cell? ⟨(ad229.add ((x5_1).toNat * 3)).block, (ad229.add ((x5_1).toNat * 3)).off + 1, none⟩ = some (.int .i64 ((rd_T25 l1 x5_1).f1)) ∧ w'.cell? ⟨(ad229.add ((x5_1).toNat * 3)).block, (ad229.add ((x5_1).toNat * 3)).off + 2, none⟩ = some (.string ((rd_T25 l1 x5_1).f2))) (ds := []) (tf 0 10) (by kernel_rfl) rfl rfl ⟨(hb_ HB hw228_0), (hb_ HB hw228_1), (hb_ HB hw228_2), (hb_ HB hw229_0), (hb_ HB hw229_1), (hb_ HB hw229_2)⟩ (fun hHeld => ?_); refine with_tabW laws_eqValueS.tab6 laws_eqValueS.bits6 (fun HT_ HW_ => ?_)
        generalize wr.drew = w11 at HB hx228_0 hx228_1 hx228_2 hx229_0 hx229_1 hx229_2 hHeld ⊢
        iterate 3 (refine pl_ ?_)
        refine plx_ 4 #[true, true, true, false, true, false, false, false, false, false] ?_
        refine plx_ 5 #[true, true, true, false, true, true, false, false, false, false] ?_
        refine plx_ 6 #[true, true, true, false, true, true, true, false, false, false] ?_
        refine tlx_ 3 (tf 7 3) ?_
        refine tl_ ?_
        refine one_ (i := 8) (N := some 25) (tf 9 1) rfl rfl (one_of HT_.out (by kernel_rfl)) (by decide) (fun K hK => ?_)
        refine gs_ Try.func39 #[.agg #[.int .i64 ((rd_T25 l0 x5_1).f0), .int .i64 ((rd_T25 l0 x5_1).f1), .string ((rd_T25 l0 x5_1).f2)], .agg #[.int .i64 ((rd_T25 l1 x5_1).f0), .int .i64 ((rd_T25 l1 x5_1).f1), .string ((rd_T25 l1 x5_1).f2)]] ?_
        with_reducible refine (laws_eqValue.calls ((rd_T25 l0 x5_1).f0) ((rd_T25 l0 x5_1).f1) ((rd_T25 l0 x5_1).f2) ((rd_T25 l1 x5_1).f0) ((rd_T25 l1 x5_1).f1) ((rd_T25 l1 x5_1).f2) false _ A7.out).mono ?_
        rintro e w12 ⟨rfl, hb⟩
        refine ⟨_, rfl, ?_⟩
        replace HB := bs_ hb
        (try clear hb)
        (try clear hb2)
        (try clear hk)
        (try clear hi)
        refine hK.out _ _ ⟨(have h_ := hb_ HB hw228_0; h_), (have h_ := hb_ HB hw228_1; h_), (have h_ := hb_ HB hw228_2; h_), (have h_ := hb_ HB hw229_0; h_), (have h_ := hb_ HB hw229_1; h_), (have h_ := hb_ HB hw229_2; h_)⟩ (fun hHeld => ?_)
        clear hK K
        refine nm_ ?_
        refine plx_ 9 (tf 10 0) ?_
        refine done_ (done_of HT_.out (by kernel_rfl)) ?_
        try go_wp2
        go_ret
        exact ⟨er_, bb_⟩
      ·rw [if_neg c6] at H
       exact absurd H (by simp)
     ·rw [if_neg c5] at H
      exact absurd H (by simp)
    ·rw [if_neg c4] at H
     have c4b0 : decide (x5_1 < (l0.length : Int)) = false := decide_eq_false c4
     clear c4
     obtain rfl := Option.some.inj H
     go_wp2
     go_ret
     exact ⟨er_, bb_⟩
 ·rw [if_neg c3] at H
  have c3b0 : ((l0.length : Int) == (l1.length : Int)) = false := beq_eq_false_iff_ne.mpr c3
  have c3b1 : ((l0.length : Int) != (l1.length : Int)) = true := bne_iff_ne.mpr c3
  have c3b2 : (l0.length == l1.length) = false := by first | simpa using c3 | (simp at c3 ⊢; omega)
  obtain rfl := Option.some.inj H
  go_enter Try.func49, Try.ntmps49
  go_wp2
  go_ret
  exact ⟨er_, bb_⟩

/-! ### laws_eqCounted: function 84 -/
def laws_eqCounted.f (k : Nat) (l0_0 : List (S25)) (a0_1 : Int) (l1_0 : List (S25)) (a1_1 : Int) : Option (Bool) := (laws_eqValueS.f k l0_0 l1_0).bind fun t233 => (if t233 = true then (if a0_1 = a1_1 then (some true) else (some false)) else (some false))
set_option maxHeartbeats 8000000 in
theorem laws_eqCounted.calls (k : Nat) (A0_0 : Option Addr) (c0_0 : Nat) (l0_0 : List (S25)) (a0_1 : Int) (A1_0 : Option Addr) (c1_0 : Nat) (l1_0 : List (S25)) (a1_1 : Int) (r : Bool) (w : World) (hr0_0 : Kd.C k25 w A0_0 l0_0.length l0_0) (hc0_0 : l0_0.length ≤ c0_0) (hr1_0 : Kd.C k25 w A1_0 l1_0.length l1_0) (hc1_0 : l1_0.length ≤ c1_0) (h : laws_eqCounted.f k l0_0 a0_1 l1_0 a1_1 = some r) :
  Calls Try.prog 84 #[.agg #[.slice A0_0 l0_0.length c0_0, .int .i64 a0_1], .agg #[.slice A1_0 l1_0.length c1_0, .int .i64 a1_1]] w fun e w' => e = .returned (.bool r) ∧ Below w.heap.size w w' := by
 have hu74 := Try.underlying74
 have HR0_0 := Aside0.mk hr0_0
 have HC0_0 := Aside0.mk hc0_0
 clear hr0_0 hc0_0
 have HR1_0 := Aside0.mk hr1_0
 have HC1_0 := Aside0.mk hc1_0
 clear hr1_0 hc1_0
 have HB := Aside0.mk (Below.refl w.heap.size w)
 have H : ((laws_eqValueS.f k l0_0 l1_0).bind fun t233 => (if t233 = true then (if a0_1 = a1_1 then (some true) else (some false)) else (some false))) = some r := h
 clear h
 replace H := Option.bind_eq_some_iff.mp H
 obtain ⟨t233, A30, H⟩ := H
 replace H : (if t233 = true then (if a0_1 = a1_1 then (some true) else (some false)) else (some false)) = some r := H
 have A3 := Aside0.mk A30
 clear A30
 by_cases c4 : t233 = true
 ·subst c4
  have H1 : (if a0_1 = a1_1 then (some true) else (some false)) = some r := by rw [if_pos rfl] at H; exact H
  clear H
  have H := H1
  clear H1
  by_cases c5 : a0_1 = a1_1
  ·rw [if_pos c5] at H
   have c5b0 : (a0_1 == a1_1) = true := beq_iff_eq.mpr c5
   have c5b1 : (a0_1 != a1_1) = false := bne_eq_false_iff_eq.mpr c5
   clear c5
   obtain rfl := Option.some.inj H
   go_enter Try.func84, Try.ntmps84
   go_wp2_with (first | ((with_reducible refine gate_dst (N := 2) rfl ?_); refine bx_ 2 #[.slice A0_0 l0_0.length c0_0, .int .i64 a0_1] 74 ?_; intro gb231 hg w6 hbox hb; have BK231 := Aside0.mk (hbox); have GW231 := gw_ hg; have GE231 := gw_ hg; replace HB := bs_ hb; clear hb hbox hg) | ((with_reducible refine gate_dst (N := 3) rfl ?_); refine bx_ 3 #[.slice A1_0 l1_0.length c1_0, .int .i64 a1_1] 74 ?_; intro gb232 hg w7 hbox hb; have BK232 := Aside0.mk (hbox); have GW232 := gw_ hg; have GE232 := gw_ hg; have NB231_232 := nl_ hg BK231; have NB232_231 := ng_ hg BK231; replace BK231 := bkb_ BK231 hb; replace HB := bs_ hb; clear hb hbox hg; have hnb8 := NB231_232.out; have hnc8 := NB232_231.out; obtain ⟨hcz9_0, hcz9_1, hfz9_0, hfz9_1⟩ := b2_ BK231; obtain ⟨hcz10_0, hcz10_1, hfz10_0, hfz10_1⟩ := b2_ BK232) | ((with_reducible refine gate_callee (f := 49) rfl ?_); refine gsL_ (some 9) Try.func49 #[.slice A0_0 l0_0.length c0_0, .slice A1_0 l1_0.length c1_0] ?_; (with_reducible refine (laws_eqValueS.calls k _ _ l0_0 _ _ l1_0 true _ ?side1 ?side2 ?side3 ?side4 A3.out).mono ?_); (case side1 => exact ck_ (Kd.C_below HR0_0.out HB.out)); (case side2 => exact HC0_0.out); (case side3 => exact ck_ (Kd.C_below HR1_0.out HB.out)); (case side4 => exact HC1_0.out); rintro e w11 ⟨rfl, hb⟩; refine ⟨_, rfl, ?_⟩; replace BK231 := bkb_ BK231 hb; replace BK232 := bkb_ BK232 hb; replace HB := bs_ hb; (try clear hb); (try clear hb2); (try clear hk); (try clear hi); obtain ⟨hcz12_0, hcz12_1, hfz12_0, hfz12_1⟩ := b2_ BK231; obtain ⟨hcz13_0, hcz13_1, hfz13_0, hfz13_1⟩ := b2_ BK232))
   go_ret
   exact ⟨er_, bb_⟩
  ·rw [if_neg c5] at H
   have c5b0 : (a0_1 == a1_1) = false := beq_eq_false_iff_ne.mpr c5
   have c5b1 : (a0_1 != a1_1) = true := bne_iff_ne.mpr c5
   obtain rfl := Option.some.inj H
   go_enter Try.func84, Try.ntmps84
   go_wp2_with (first | ((with_reducible refine gate_dst (N := 2) rfl ?_); refine bx_ 2 #[.slice A0_0 l0_0.length c0_0, .int .i64 a0_1] 74 ?_; intro gb231 hg w14 hbox hb; have BK231 := Aside0.mk (hbox); have GW231 := gw_ hg; have GE231 := gw_ hg; replace HB := bs_ hb; clear hb hbox hg) | ((with_reducible refine gate_dst (N := 3) rfl ?_); refine bx_ 3 #[.slice A1_0 l1_0.length c1_0, .int .i64 a1_1] 74 ?_; intro gb232 hg w15 hbox hb; have BK232 := Aside0.mk (hbox); have GW232 := gw_ hg; have GE232 := gw_ hg; have NB231_232 := nl_ hg BK231; have NB232_231 := ng_ hg BK231; replace BK231 := bkb_ BK231 hb; replace HB := bs_ hb; clear hb hbox hg; have hnb16 := NB231_232.out; have hnc16 := NB232_231.out; obtain ⟨hcz17_0, hcz17_1, hfz17_0, hfz17_1⟩ := b2_ BK231; obtain ⟨hcz18_0, hcz18_1, hfz18_0, hfz18_1⟩ := b2_ BK232) | ((with_reducible refine gate_callee (f := 49) rfl ?_); refine gsL_ (some 9) Try.func49 #[.slice A0_0 l0_0.length c0_0, .slice A1_0 l1_0.length c1_0] ?_; (with_reducible refine (laws_eqValueS.calls k _ _ l0_0 _ _ l1_0 true _ ?side1 ?side2 ?side3 ?side4 A3.out).mono ?_); (case side1 => exact ck_ (Kd.C_below HR0_0.out HB.out)); (case side2 => exact HC0_0.out); (case side3 => exact ck_ (Kd.C_below HR1_0.out HB.out)); (case side4 => exact HC1_0.out); rintro e w19 ⟨rfl, hb⟩; refine ⟨_, rfl, ?_⟩; replace BK231 := bkb_ BK231 hb; replace BK232 := bkb_ BK232 hb; replace HB := bs_ hb; (try clear hb); (try clear hb2); (try clear hk); (try clear hi); obtain ⟨hcz20_0, hcz20_1, hfz20_0, hfz20_1⟩ := b2_ BK231; obtain ⟨hcz21_0, hcz21_1, hfz21_0, hfz21_1⟩ := b2_ BK232))
   go_ret
   exact ⟨er_, bb_⟩
 ·replace c4 := Bool.eq_false_iff.mpr c4
  subst c4
  have H1 : (some false) = some r := by rw [if_neg (show ¬ (false = true) by decide)] at H; exact H
  clear H
  have H := H1
  clear H1
  obtain rfl := Option.some.inj H
  go_enter Try.func84, Try.ntmps84
  go_wp2_with (first | ((with_reducible refine gate_dst (N := 2) rfl ?_); refine bx_ 2 #[.slice A0_0 l0_0.length c0_0, .int .i64 a0_1] 74 ?_; intro gb231 hg w22 hbox hb; have BK231 := Aside0.mk (hbox); have GW231 := gw_ hg; have GE231 := gw_ hg; replace HB := bs_ hb; clear hb hbox hg) | ((with_reducible refine gate_dst (N := 3) rfl ?_); refine bx_ 3 #[.slice A1_0 l1_0.length c1_0, .int .i64 a1_1] 74 ?_; intro gb232 hg w23 hbox hb; have BK232 := Aside0.mk (hbox); have GW232 := gw_ hg; have GE232 := gw_ hg; have NB231_232 := nl_ hg BK231; have NB232_231 := ng_ hg BK231; replace BK231 := bkb_ BK231 hb; replace HB := bs_ hb; clear hb hbox hg; have hnb24 := NB231_232.out; have hnc24 := NB232_231.out; obtain ⟨hcz25_0, hcz25_1, hfz25_0, hfz25_1⟩ := b2_ BK231; obtain ⟨hcz26_0, hcz26_1, hfz26_0, hfz26_1⟩ := b2_ BK232) | ((with_reducible refine gate_callee (f := 49) rfl ?_); refine gsL_ (some 9) Try.func49 #[.slice A0_0 l0_0.length c0_0, .slice A1_0 l1_0.length c1_0] ?_; (with_reducible refine (laws_eqValueS.calls k _ _ l0_0 _ _ l1_0 false _ ?side1 ?side2 ?side3 ?side4 A3.out).mono ?_); (case side1 => exact ck_ (Kd.C_below HR0_0.out HB.out)); (case side2 => exact HC0_0.out); (case side3 => exact ck_ (Kd.C_below HR1_0.out HB.out)); (case side4 => exact HC1_0.out); rintro e w27 ⟨rfl, hb⟩; refine ⟨_, rfl, ?_⟩; replace BK231 := bkb_ BK231 hb; replace BK232 := bkb_ BK232 hb; replace HB := bs_ hb; (try clear hb); (try clear hb2); (try clear hk); (try clear hi)))
  go_ret
  exact ⟨er_, bb_⟩

end Go.Proofs.Ytapgfamppnhnmaa.PFnExactBagOf
