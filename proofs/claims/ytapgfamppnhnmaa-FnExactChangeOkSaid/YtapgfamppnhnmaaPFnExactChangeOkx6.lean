-- WRITTEN BY xprint.py, a program of this session over the kit's printer: by nobody's hand
-- PRESSED
import Derived.Test.YtapgfamppnhnmaaPress
import Derived.Test.YtapgfamppnhnmaaPFnExactChangeOkx0
namespace Go.Proofs.Ytapgfamppnhnmaa.PFnExactChangeOk
set_option maxRecDepth 100000
open Go.RowKit Go.Proofs.YtapgfamppnhnmaaW.PrintWords Go.Proofs.YtapgfamppnhnmaaW.PrintLast Go.Proofs.YtapgfamppnhnmaaW.PrintMore
attribute [local go_sem] max2_int min2_int max_two min_two max_three min_three max_four min_four   -- for this text's walks alone
set_option linter.unusedVariables false
set_option linter.unusedSimpArgs false

/-! ### spec_l04Rel: function 55 -/
def spec_l04Rel.l0 : Nat → List (S91) → ByteArray → Int → Option (Int × (List (S74)) × Bool)
 | 0, _, _, _ => none
 | k + 1, x0, x1, x6 => if x6 < (x0.length : Int) then (if 0 ≤ x6 then (if ((rd_T91 x0 x6).f0).toList = x1.toList then (some ((rd_T91 x0 x6).f1.f0, (rd_T91 x0 x6).f1.f1, true)) else (spec_l04Rel.l0 k x0 x1 (wrap64 (x6 + 1)))) else (none)) else (some (0, ([] : List (S74)), false))
def spec_l04Rel.f (k : Nat) (l0 : List (S91)) (a1 : ByteArray) : Option (Int × (List (S74)) × Bool) := spec_l04Rel.l0 k l0 a1 0
set_option maxHeartbeats 8000000 in
theorem spec_l04Rel.calls (k : Nat) (P0_ : Nat → Prop) (A0 : Option Addr) (c0 : Nat) (l0 : List (S91)) (a1 : ByteArray) (r1 : Int) (r2 : List (S74)) (r3 : Bool) (w : World) (hs0 : Kd.V k91 91 w w.heap.size (fun k_ => P0_ k_) (.slice A0 l0.length c0) l0) (h : spec_l04Rel.f k l0 a1 = some (r1, r2, r3)) :
  Calls Try.prog 55 #[.slice A0 l0.length c0, .string a1] w fun e w' => ∃ v1_ : Value, e = .returned (.tuple #[.agg #[.int .i64 r1, v1_], .bool r3]) ∧ Kd.V k74 74 w' w.heap.size (fun k_ => (P0_ k_ ∨ w.heap.size ≤ k_)) v1_ r2 ∧ Below w.heap.size w w' := by
 have hu40 := Try.underlying40
 have HO0 := Aside0.mk (show Kd.V k91 91 w w.heap.size (fun k_ => (P0_ k_ ∨ w.heap.size ≤ k_)) (.slice A0 l0.length c0) l0 from Kd.V_mono hs0 (fun k_ hk => .inl hk))
 have HB := Aside0.mk (Below.refl w.heap.size w)
 have H : (spec_l04Rel.l0 k l0 a1 0) = some (r1, r2, r3) := h
 clear h
 have H' := Aside0.mk H
 clear H
 go_enter Try.func55, Try.ntmps55
 go_wp2_with (first | ((with_reducible refine gate_dst (N := 4) rfl ?_); refine bx_ 4 #[.int .i64 0, .slice none 0 0] 40 ?_; intro gb141 hg w3 hbox hb; have BK141 := Aside0.mk (hbox); have GW141 := gw_ hg; have GE141 := gw_ hg; replace HO0 := Aside0.mk (Kd.V_below (Kd.V_elderB (by (with_reducible repeat (first | apply Kd.V_alloc | apply Kd.V_drewN | apply Kd.V_drew)); exact HO0.out) gb141 (Nat.le_of_eq hg.symm)) hb); replace HB := bs_ hb; clear hb hbox hg))
 go_loopg [6] k (fun kq v6 w' => ∃ (x6_1 : Int) (x142000_1 : Int), v6 = .int .i64 x6_1 ∧ Aside0 (spec_l04Rel.l0 kq l0 a1 x6_1 = some (r1, r2, r3)) ∧ Aside0 (kq ≤ k) ∧ Aside0 (Kd.V k91 91 w' w.heap.size (fun k_ => (P0_ k_ ∨ w.heap.size ≤ k_) ∧ k_ ≠ gb141) (.slice A0 l0.length c0) l0) ∧ Aside0 (w'.heap[gb141]? = some (.cells #[.int .i64 x142000_1, (.slice none 0 0)] 40 (0, 0))) ∧ Aside0 (Below w.heap.size w w'))
 case atStart => exact ⟨(0), (0), rs_, H', ⟨Nat.le_refl _⟩, ⟨by (with_reducible repeat (first | apply Kd.V_alloc | apply Kd.V_drewN | apply Kd.V_drew)); exact HO0.out⟩, ⟨bkx_ BK141.out⟩, ⟨bb_⟩⟩
 case round =>
  clear H'
  try clear p2
  obtain ⟨x6_1, x142000_1, rfl, HA, HK1, HO_0, BK141, HB⟩ := hrel
  cases gk with
  | zero => exact absurd HA.out (by simp [spec_l04Rel.l0])
  | succ k1 =>
   have H := HA.out
   clear HA
   simp only [spec_l04Rel.l0] at H
   by_cases c4 : x6_1 < (l0.length : Int)
   ·rw [if_pos c4] at H
    have c4b0 : decide (x6_1 < (l0.length : Int)) = true := decide_eq_true c4
    clear c4
    by_cases c5 : 0 ≤ x6_1
    ·rw [if_pos c5] at H
     have c5b0 : decide (0 ≤ x6_1) = true := decide_eq_true c5
     clear c5
     by_cases c6 : ((rd_T91 l0 x6_1).f0).toList = a1.toList
     ·rw [if_pos c6] at H
      have c6b0 : (((rd_T91 l0 x6_1).f0).toList == a1.toList) = true := beq_iff_eq.mpr c6
      have c6b1 : (((rd_T91 l0 x6_1).f0).toList != a1.toList) = false := bne_eq_false_iff_eq.mpr c6
      clear c6
      simp only [Option.some.injEq, Prod.mk.injEq] at H
      obtain ⟨rfl, rfl, rfl⟩ := H
      have p142 : 0 ≤ (x6_1 : Int) := od_
      have q142 : x6_1 < (l0.length : Int) := od_
      obtain ⟨ad142, A142_2, c142_2, e142, hx142_0, hx142_1, hx142_2, hl142_2, hi142_2⟩ := at_T91 (Kd.V_reads' HO_0.out).2.2 x6_1 p142 q142
      cases e142
      obtain ⟨ce142, hce142, hMe142, hcc142⟩ := Kd.V_get HO_0.out z91 x6_1 p142 (by first | exact q142 | exact od_ | (have e_ := (Kd.V_reads' HO_0.out).1; omega))
      obtain ⟨ua142_2, uc142_2, rfl, ul142_2, ge142_2⟩ := k91_openF hMe142
      have hv142_2 := hcc142 2 _ rfl
      rw [add_field _ _ 2 (by omega)] at hv142_2
      replace hv142_2 := Option.some.inj (hv142_2.symm.trans hx142_2)
      injection hv142_2 with hva_ hvn_ hvc_
      rw [hva_] at ge142_2
      rw [hvc_] at ul142_2
      have HL142_2 := Aside0.mk (show Kd.V k74 74 _ w.heap.size _ _ ((rd_T91 l0 x6_1).f1.f1) from Kd.V_mk ul142_2 ge142_2)
      clear hva_ hvn_ hvc_ ge142_2 ul142_2
      clear hcc142 hce142
      have HR142_2 := Aside0.mk hi142_2
      have HC142_2 := Aside0.mk hl142_2
      clear hi142_2 hl142_2
      replace p142 := eq_true p142
      replace q142 := eq_true q142
      have p143 : 0 ≤ (x6_1 : Int) := od_
      have q143 : x6_1 < (l0.length : Int) := od_
      obtain ⟨ad143, A143_2, c143_2, e143, hx143_0, hx143_1, hx143_2, hl143_2, hi143_2⟩ := at_T91 (Kd.V_reads' HO_0.out).2.2 x6_1 p143 q143
      obtain rfl : ad142 = ad143 := (by injection e143)
      obtain ⟨ce143, hce143, hMe143, hcc143⟩ := Kd.V_get HO_0.out z91 x6_1 p143 (by first | exact q143 | exact od_ | (have e_ := (Kd.V_reads' HO_0.out).1; omega))
      obtain ⟨ua143_2, uc143_2, rfl, ul143_2, ge143_2⟩ := k91_openF hMe143
      have hv143_2 := hcc143 2 _ rfl
      rw [add_field _ _ 2 (by omega)] at hv143_2
      replace hv143_2 := Option.some.inj (hv143_2.symm.trans hx143_2)
      injection hv143_2 with hva_ hvn_ hvc_
      rw [hva_] at ge143_2
      rw [hvc_] at ul143_2
      have HL143_2 := Aside0.mk (show Kd.V k74 74 _ w.heap.size _ _ ((rd_T91 l0 x6_1).f1.f1) from Kd.V_mk ul143_2 ge143_2)
      clear hva_ hvn_ hvc_ ge143_2 ul143_2
      clear hcc143 hce143
      have HR143_2 := Aside0.mk hi143_2
      have HC143_2 := Aside0.mk hl143_2
      clear hi143_2 hl143_2
      replace p143 := eq_true p143
      replace q143 := eq_true q143
      have ea_ := Option.some.inj (hx142_2.symm.trans hx143_2)
      injection ea_ with ea_ en_ ec_
      subst ea_
      subst ec_
      clear en_
      obtain ⟨hcz7_0, hcz7_1, hfz7_0, hfz7_1⟩ := b2_ BK141
      go_wp2
      refine bodyPost_ret (results_ct rfl _ _ gb141 40 #[.int .i64 ((rd_T91 l0 x6_1).f1.f0), .slice A142_2 ((rd_T91 l0 x6_1).f1.f1).length c142_2] (0, 0) _ rfl (bp2_ (bkx_ BK141.out)) Try.underlying40 rfl (by kernel_rfl)) rfl ?_
      exact ⟨_, by first | rfl | (simp [errW_none, errW_some] <;> rfl) | (simp [*, errW_none, errW_some] <;> rfl), by (with_reducible repeat (first | apply Kd.V_alloc | apply Kd.V_drewN | apply Kd.V_drew)); exact Kd.V_mono (Kd.V_far (p := ⟨gb141, 1, none⟩) (Kd.V_far (p := ⟨gb141, 0, none⟩) (Kd.V_mono HL143_2.out (fun k_ hk => (⟨hk, hk.2⟩ : _ ∧ k_ ≠ gb141))) (fun _ hk => hk.2) (.int .i64 ((rd_T91 l0 x6_1).f1.f0))) (fun _ hk => hk.2) (.slice A142_2 ((rd_T91 l0 x6_1).f1.f1).length c142_2)) (fun _ hk => hk.1.1), by repeat (first | (with_reducible first | exact HB.out | apply below_alloc | apply pw_below_drewN | apply below_drew1 | refine below_set ?_ GE141.out) | exact HB.out)⟩
     ·rw [if_neg c6] at H
      have c6b0 : (((rd_T91 l0 x6_1).f0).toList == a1.toList) = false := beq_eq_false_iff_ne.mpr c6
      have c6b1 : (((rd_T91 l0 x6_1).f0).toList != a1.toList) = true := bne_iff_ne.mpr c6
      have H' := Aside0.mk H
      clear H
      have p142 : 0 ≤ (x6_1 : Int) := od_
      have q142 : x6_1 < (l0.length : Int) := od_
      obtain ⟨ad142, A142_2, c142_2, e142, hx142_0, hx142_1, hx142_2, hl142_2, hi142_2⟩ := at_T91 (Kd.V_reads' HO_0.out).2.2 x6_1 p142 q142
      cases e142
      obtain ⟨ce142, hce142, hMe142, hcc142⟩ := Kd.V_get HO_0.out z91 x6_1 p142 (by first | exact q142 | exact od_ | (have e_ := (Kd.V_reads' HO_0.out).1; omega))
      obtain ⟨ua142_2, uc142_2, rfl, ul142_2, ge142_2⟩ := k91_openF hMe142
      have hv142_2 := hcc142 2 _ rfl
      rw [add_field _ _ 2 (by omega)] at hv142_2
      replace hv142_2 := Option.some.inj (hv142_2.symm.trans hx142_2)
      injection hv142_2 with hva_ hvn_ hvc_
      rw [hva_] at ge142_2
      rw [hvc_] at ul142_2
      have HL142_2 := Aside0.mk (show Kd.V k74 74 _ w.heap.size _ _ ((rd_T91 l0 x6_1).f1.f1) from Kd.V_mk ul142_2 ge142_2)
      clear hva_ hvn_ hvc_ ge142_2 ul142_2
      clear hcc142 hce142
      have HR142_2 := Aside0.mk hi142_2
      have HC142_2 := Aside0.mk hl142_2
      clear hi142_2 hl142_2
      replace p142 := eq_true p142
      replace q142 := eq_true q142
      go_wp2
      go_roundg k1
      case measure => have := HK1.out; omega
      case rel => exact ⟨(wrap64 (x6_1 + 1)), (x142000_1), rs_, H', ⟨by have := HK1.out; omega⟩, ⟨by (with_reducible repeat (first | apply Kd.V_alloc | apply Kd.V_drewN | apply Kd.V_drew)); exact HO_0.out⟩, ⟨bkx_ BK141.out⟩, ⟨bb_⟩⟩
    ·rw [if_neg c5] at H
     exact absurd H (by simp)
   ·rw [if_neg c4] at H
    have c4b0 : decide (x6_1 < (l0.length : Int)) = false := decide_eq_false c4
    clear c4
    simp only [Option.some.injEq, Prod.mk.injEq] at H
    obtain ⟨rfl, rfl, rfl⟩ := H
    obtain ⟨hcz8_0, hcz8_1, hfz8_0, hfz8_1⟩ := b2_ BK141
    go_wp2
    refine bodyPost_ret (results_ct rfl _ _ gb141 40 #[.int .i64 0, .slice none 0 0] (0, 0) _ rfl (bp2_ (bkx_ BK141.out)) Try.underlying40 rfl (by kernel_rfl)) rfl ?_
    exact ⟨_, by first | rfl | (simp [errW_none, errW_some] <;> rfl) | (simp [*, errW_none, errW_some] <;> rfl), Kd.V_nil _ _ _ _ _, by repeat (first | (with_reducible first | exact HB.out | apply below_alloc | apply pw_below_drewN | apply below_drew1 | refine below_set ?_ GE141.out) | exact HB.out)⟩

/-! ### spec_l02CopyRow: function 76 -/
def spec_l02CopyRow.f (l0 : List (S25)) : Option ((List (S25))) := (some (([] : List (S25)) : List (S25))).bind fun y144 => (if y144.length + l0.length < 4398046511104 then (some (y144 ++ l0)) else (none))
set_option maxHeartbeats 8000000 in
theorem spec_l02CopyRow.calls (A0 : Option Addr) (c0 : Nat) (l0 : List (S25)) (r : List (S25)) (w : World) (hr0 : Kd.C k25 w A0 l0.length l0) (hc0 : l0.length ≤ c0) (h : spec_l02CopyRow.f l0 = some r) :
  Calls Try.prog 76 #[.slice A0 l0.length c0] w fun e w' => ∃ v0_ : Value, e = .returned (v0_) ∧ Kd.R k25 25 w' w.heap.size (fun _ => True) v0_ r ∧ Below w.heap.size w w' := by
 have HR0 := Aside0.mk hr0
 have HC0 := Aside0.mk hc0
 clear hr0 hc0
 have HB := Aside0.mk (Below.refl w.heap.size w)
 have H : ((some (([] : List (S25)) : List (S25))).bind fun y144 => (if y144.length + l0.length < 4398046511104 then (some (y144 ++ l0)) else (none))) = some r := h
 clear h
 obtain ⟨y144, hy144⟩ : ∃ y_ : List (S25), y_ = (([] : List (S25))) := ⟨_, rfl⟩
 replace H : (if y144.length + l0.length < 4398046511104 then (some (y144 ++ l0)) else (none)) = some r := by first | (rw [hy144]; with_reducible exact H) | (have H2_ := (Option.bind_some _ _).symm.trans H; rw [hy144]; with_reducible exact H2_) | (have H2_ := (Option.bind_some _ _).symm.trans H; with_reducible exact H2_) | with_reducible exact H | (rw [hy144]; exact H) | exact H
 have Ny144 := Aside0.mk hy144
 clear hy144
 by_cases c2 : y144.length + l0.length < 4398046511104
 ·rw [if_pos c2] at H
  have LMc2 := Aside0.mk c2
  clear c2
  obtain ⟨y147, hy147⟩ : ∃ y_ : List (S25), y_ = (y144 ++ l0) := ⟨_, rfl⟩
  replace H : (some y147) = some r := by first | (rw [hy147]; with_reducible exact H) | (have H2_ := (Option.bind_some _ _).symm.trans H; rw [hy147]; with_reducible exact H2_) | (have H2_ := (Option.bind_some _ _).symm.trans H; with_reducible exact H2_) | with_reducible exact H | (rw [hy147]; exact H) | exact H
  have Ny147 := Aside0.mk hy147
  clear hy147
  obtain rfl := Option.some.inj H
  go_enter Try.func76, Try.ntmps76
  go_wp2_with (first | ((with_reducible refine gate_dst (N := 3) rfl ?_); refine Kd.R_lit k25 _ 25 ?hg (N := 3) ?hd (xs := ([] : List (S25))) (inner := []) (ok := fun _ => True) (okp := fun _ => True) ?hr ?hp (fun _ hk => hk) trivial (Below.refl _ _) (Nat.le_refl _) (by simp) ?_; (case hd => rfl); (case hg => rfl); (case hr => first | (go_simp; done) | (go_simp; rfl)); (case hp => exact (Reps.none _ _)); intro v145 w3 ho4 hb hg_ hnew_; clear hg_ hnew_; (first | rw [← Ny144.out] at ho4 | (simp only [Int.reduceToNat] at ho4; rw [← Ny144.out] at ho4)); have HO146 := Aside0.mk (Kd.R_lower ho4 (below_size bb_)); replace HB := bs_ hb; clear hb ho4) | ((with_reducible refine gate_builtin (b := .append) (xs := #[.tmp 3, .tmp 4]) rfl ?_); at_builtin; refine Kd.R_append_rows k25 (w0 := w) w.heap.size rfl (.tmp 3) (.tmp 4) 70 25 (.agg #[(.int .i64 0), (.int .i64 0), (.string ⟨#[]⟩)]) 32 rfl Try.underlying70 info25 rfl (by decide) (by omega) v145 y144 l0 _ _ _ (fun _ => True) (fun _ => False) rfl rfl ?aO ?aR (fun _ _ h => h) (fun _ h => h.elim) ?aF ?aB ?aS ?aL ?_; (case aR => repeat (first | exact (Kd.C_below HR0.out HB.out) | (with_reducible refine Kd.C_alloc ?_ _) | (with_reducible refine Kd.C_drewN ?_ _) | (with_reducible refine Kd.C_drew ?_))); (case aB => exact bb_); (case aF => exact (fun _ _ => trivial)); (case aO => exact (rk_ HO146.out)); (case aS => exact (below_size bb_)); (case aL => have := LMc2.out; omega); intro v148 w5 ho hb hg hat; rw [← Ny147.out] at ho; have HO149 := Aside0.mk (ho); replace HB := Aside0.mk (hb); clear HO146; clear ho hb hg hat))
  go_ret
  exact ⟨_, by first | rfl | (simp [errW_none, errW_some] <;> rfl) | (simp [*, errW_none, errW_some] <;> rfl), by (with_reducible repeat (first | apply Kd.R_alloc | apply Kd.R_drewN | apply Kd.R_drew)); exact HO149.out, by repeat (first | (with_reducible first | exact HB.out | apply below_alloc | apply pw_below_drewN | apply below_drew1) | exact HB.out)⟩
 ·rw [if_neg c2] at H
  exact absurd H (by simp)

end Go.Proofs.Ytapgfamppnhnmaa.PFnExactChangeOk
