-- WRITTEN BY xprint.py, a program of this session over the kit's printer: by nobody's hand
-- PRESSED
import Derived.Test.YtapgfamppnhnmaaPress
import Derived.Test.YtapgfamppnhnmaaPFnExactChangeOkx0
import Derived.Test.YtapgfamppnhnmaaPFnExactChangeOkx11
import Derived.Test.YtapgfamppnhnmaaPFnExactChangeOkx13
import Derived.Test.YtapgfamppnhnmaaPFnExactChangeOkx14
import Derived.Test.YtapgfamppnhnmaaPFnExactChangeOkx15
namespace Go.Proofs.Ytapgfamppnhnmaa.PFnExactChangeOk
set_option maxRecDepth 100000
open Go.RowKit Go.Proofs.YtapgfamppnhnmaaW.PrintWords Go.Proofs.YtapgfamppnhnmaaW.PrintLast Go.Proofs.YtapgfamppnhnmaaW.PrintMore
attribute [local go_sem] max2_int min2_int max_two min_two max_three min_three max_four min_four   -- for this text's walks alone
set_option linter.unusedVariables false
set_option linter.unusedSimpArgs false

/-! ### impl_Counted_122: function 122, of nil alone -/
def impl_Counted_122.f (l0 : List (S74)) (a1 : Int) : Option ((List (S74))) := if a1 < 0 then (none) else (if a1.toNat < 4398046511104 then (some ([] : List (S74))) else (none))
set_option maxHeartbeats 8000000 in
theorem impl_Counted_122.calls (ji5 : Int) (r : List (S74)) (w : World) (h : impl_Counted_122.f [] ji5 = some r) :
  Calls Try.prog 122 #[.slice none 0 0, .int .i64 ji5] w fun e w' => ∃ v0_ : Value, e = .returned (v0_) ∧ Kd.S k74 74 w' w.heap.size (fun _ => True) v0_ r ∧ Below w.heap.size w w' := by
 have HB := Aside0.mk (Below.refl w.heap.size w)
 unfold impl_Counted_122.f at h
 by_cases c3 : ji5 < 0
 ·rw [if_pos c3] at h
  exact absurd h (by simp)
 rw [if_neg c3] at h
 by_cases c7 : ji5.toNat < 4398046511104
 case neg => rw [if_neg c7] at h; exact absurd h (by simp)
 rw [if_pos c7] at h
 obtain rfl := Option.some.inj h
 clear h
 have c3b0 : decide (ji5 < 0) = false := decide_eq_false c3
 have c6b1 : decide (0 ≤ ji5) = true := decide_eq_true (by omega)
 have c6b0 : (0 ≤ ji5) = True := eq_true (by omega)
 have rw_ : IntKind.i64.wrap ji5 = ji5 := by rw [IntKind.wrap_i64]; omega
 have LMc7 := Aside0.mk (show ([] : List (S74)).length + (ji5 : Int).toNat < 4398046511104 from by simpa using c7)
 clear c7
 by_cases c4 : 0 < ji5
 ·have c4b0 : decide (0 < ji5) = true := decide_eq_true c4
  clear c3
  obtain ⟨y323, hy1⟩ : ∃ y_ : List (S74), y_ = (([] : List (S74)) ++ List.replicate (ji5 : Int).toNat z74) := ⟨_, rfl⟩
  have Ny323 := Aside0.mk hy1
  have c8b1 : decide (0 ≤ (([] : List (S74)).length : Int)) = true := by simp
  have c9b1 : decide ((([] : List (S74)).length : Int) ≤ (y323.length : Int)) = true := by simp
  have c9b2 : decide ((0 : Int) ≤ (y323.length : Int)) = true := by simp
  clear hy1
  obtain ⟨y326, hy2⟩ : ∃ y_ : List (S74), y_ = (y323.take ((([] : List (S74)).length : Int) : Int).toNat) := ⟨_, rfl⟩
  have Ny326 := Aside0.mk hy2
  have hy0_ : Aside0 (y326 = []) := ⟨by rw [hy2]; simp⟩
  clear hy2
  go_enter Try.func122, Try.ntmps122
  go_wp2_with (first | (at_builtin; refine Kd.S_append_zeros k74 (w0 := w) w.heap.size rfl (.tmp 20) (.tmp 21) 38 3 74 (.agg #[(.slice none 0 0), (.int .i64 0)]) 32 rfl Try.underlying38 Try.underlying3 info74 rfl (by decide) (by omega) (.slice none 0 0) ([] : List (S74)) z74 (ji5 : Int) (fun _ => True) rfl rfl (k74_mkM _ _ _ z74 (Kd.R_nil _ _ _ _ _)) ?aF ?aO od_ ?aB ?aS ?aL ?_; (case aB => exact bb_); (case aF => exact (fun _ _ => trivial)); (case aO => exact ((Kd.S_nil _ _ _ _ _))); (case aS => exact (below_size bb_)); (case aL => have := LMc7.out; omega); intro v324 w10 ho hb hg hat; rw [← Ny323.out] at ho; have n0_ := Aside0.mk (hb); have n1_ := Aside0.mk (ho); clear HB; have HB := n0_; have HO325 := n1_; clear n0_ n1_; clear ho hb hg hat; obtain ⟨Ao11, co11, eo11⟩ := Kd.S_slice HO325.out; subst eo11; have q12 : ((([] : List (S74)).length : Int) : Int) ≤ ((y323.length : Int) : Int) := od_; obtain ⟨i012, hi012, _, hsz12, _⟩ := info_parts info74; have hcut12 := cut_to (P := Try.prog) 38 74 .i64 Try.underlying38 hi012 Ao11 y323.length co11 (([] : List (S74)).length : Int) od_ q12 (Kd.S_reads' HO325.out).2.1; have hr12 := Kd.S_take (m := ((([] : List (S74)).length : Int) : Int).toNat) HO325.out (by omega); have hy12 : y326.length = ((([] : List (S74)).length : Int) : Int).toNat := (by rw [Ny326.out, List.length_take]; omega); rw [← Ny326.out] at hr12; rw [← hy12] at hr12 hcut12; clear hy12 hi012 hsz12 HO325; have HO328 := Aside0.mk hr12; clear hr12; replace q12 := eq_true q12))
  go_ret
  exact ⟨_, by first | rfl | (simp [errW_none, errW_some] <;> rfl) | (simp [*, errW_none, errW_some] <;> rfl), by (with_reducible repeat (first | apply Kd.S_alloc | apply Kd.S_drewN | apply Kd.S_drew)); (have h_ := HO328.out); (rw [hy0_.out] at h_); exact h_, by repeat (first | (with_reducible first | exact HB.out | apply below_alloc | apply pw_below_drewN | apply below_drew1) | exact HB.out)⟩
 ·have c4b0 : decide (0 < ji5) = false := decide_eq_false c4
  clear c4 c3
  go_enter Try.func122, Try.ntmps122
  go_wp2
  go_ret
  exact ⟨_, by first | rfl | (simp [errW_none, errW_some] <;> rfl) | (simp [*, errW_none, errW_some] <;> rfl), by first | exact Kd.S_nil _ _ _ _ _, by repeat (first | (with_reducible first | exact HB.out | apply below_alloc | apply pw_below_drewN | apply below_drew1) | exact HB.out)⟩

/-! ### impl_Counted_100: function 100 -/
mutual
def impl_Counted_100.l0 : Nat → List (List (S74)) → Int → List (List (S74)) → Int → Int → Option ((List (S74)))
 | 0, _, _, _, _, _ => none
 | k + 1, x0, x3, x9, x10, x11 => if x11 < x10 then (if 0 ≤ x11 then (if x11 < (x9.length : Int) then (if (wrap64 (x3 + ((rd_L11 x9 x11).length : Int))) < 0 then (none) else (impl_Counted_100.l0 k x0 (wrap64 (x3 + ((rd_L11 x9 x11).length : Int))) x9 x10 (wrap64 (x11 + 1)))) else (none)) else (none)) else ((impl_Counted_122.f ([] : List (S74)) x3).bind fun t330 => (impl_Counted_100.l1 k t330 x0 (x0.length : Int) 0))
def impl_Counted_100.l1 : Nat → List (S74) → List (List (S74)) → Int → Int → Option ((List (S74)))
 | 0, _, _, _, _ => none
 | k + 1, x6, x25, x26, x27 => if x27 < x26 then (if 0 ≤ x27 then (if x27 < (x25.length : Int) then (if x6.length + (rd_L11 x25 x27).length < 4398046511104 then (impl_Counted_100.l1 k (x6 ++ (rd_L11 x25 x27)) x25 x26 (wrap64 (x27 + 1))) else (none)) else (none)) else (none)) else (some x6)
end
def impl_Counted_100.f (k : Nat) (l0 : List (List (S74))) : Option ((List (S74))) := impl_Counted_100.l0 k l0 0 l0 (l0.length : Int) 0
set_option maxHeartbeats 8000000 in
theorem impl_Counted_100.calls (k : Nat) (P0_ : Nat → Prop) (A0 : Option Addr) (c0 : Nat) (l0 : List (List (S74))) (r : List (S74)) (w : World) (hs0 : Kd.V (Kd.slice 74 k74) 38 w w.heap.size (fun k_ => P0_ k_) (.slice A0 l0.length c0) l0) (h : impl_Counted_100.f k l0 = some r) :
  Calls Try.prog 100 #[.slice A0 l0.length c0] w fun e w' => ∃ v0_ : Value, e = .returned (v0_) ∧ Kd.N k74 74 w' w.heap.size (fun k_ => (P0_ k_ ∨ w.heap.size ≤ k_)) v0_ r ∧ Below w.heap.size w w' := by
 have HO0 := Aside0.mk (show Kd.V (Kd.slice 74 k74) 38 w w.heap.size (fun k_ => (P0_ k_ ∨ w.heap.size ≤ k_)) (.slice A0 l0.length c0) l0 from Kd.V_mono hs0 (fun k_ hk => .inl hk))
 have HB := Aside0.mk (Below.refl w.heap.size w)
 have H : (impl_Counted_100.l0 k l0 0 l0 (l0.length : Int) 0) = some r := h
 clear h
 have H' := Aside0.mk H
 clear H
 go_enter Try.func100, Try.ntmps100
 go_wp2
 go_loopg [3, 11] k (fun kq v3 v11 w' => ∃ (x3_1 : Int) (x11_1 : Int), v3 = .int .i64 x3_1 ∧ v11 = .int .i64 x11_1 ∧ Aside0 (impl_Counted_100.l0 kq l0 x3_1 l0 (l0.length : Int) x11_1 = some r) ∧ Aside0 (kq ≤ k) ∧ Aside0 (Kd.V (Kd.slice 74 k74) 38 w' w.heap.size (fun k_ => (P0_ k_ ∨ w.heap.size ≤ k_)) (.slice A0 l0.length c0) l0) ∧ Aside0 (Kd.V (Kd.slice 74 k74) 38 w' w.heap.size (fun k_ => (P0_ k_ ∨ w.heap.size ≤ k_)) (.slice A0 l0.length c0) l0) ∧ Aside0 (Below w.heap.size w w'))
 case atStart => exact ⟨(0), (0), rs_, rs_, H', ⟨Nat.le_refl _⟩, ⟨by (with_reducible repeat (first | apply Kd.V_alloc | apply Kd.V_drewN | apply Kd.V_drew)); exact HO0.out⟩, ⟨by (with_reducible repeat (first | apply Kd.V_alloc | apply Kd.V_drewN | apply Kd.V_drew)); exact HO0.out⟩, ⟨bb_⟩⟩
 case round =>
  clear H'
  try clear c1
  obtain ⟨x3_1, x11_1, rfl, rfl, HA, HK1, HO_0, HO_9, HB⟩ := hrel
  cases gk with
  | zero => exact absurd HA.out (by simp [impl_Counted_100.l0])
  | succ k1 =>
   have H := HA.out
   clear HA
   simp only [impl_Counted_100.l0] at H
   by_cases c2 : x11_1 < (l0.length : Int)
   ·rw [if_pos c2] at H
    have c2b0 : decide (x11_1 < (l0.length : Int)) = true := decide_eq_true c2
    clear c2
    by_cases c3 : 0 ≤ x11_1
    ·rw [if_pos c3] at H
     have c3b0 : decide (0 ≤ x11_1) = true := decide_eq_true c3
     clear c3
     by_cases c4 : x11_1 < (l0.length : Int)
     ·rw [if_pos c4] at H
      have c4b0 : decide (x11_1 < (l0.length : Int)) = true := decide_eq_true c4
      clear c4
      by_cases c5 : (wrap64 (x3_1 + ((rd_L11 l0 x11_1).length : Int))) < 0
      ·rw [if_pos c5] at H
       exact absurd H (by simp)
      ·rw [if_neg c5] at H
       have c5b0 : decide ((wrap64 (x3_1 + ((rd_L11 l0 x11_1).length : Int))) < 0) = false := decide_eq_false c5
       clear c5
       have H' := Aside0.mk H
       clear H
       have p329 : 0 ≤ (x11_1 : Int) := od_
       have q329 : x11_1 < (l0.length : Int) := od_
       obtain ⟨ad329, A329_0, c329_0, e329, hx329_0, hl329_0, hi329_0⟩ := at_L11 (Kd.V_reads' HO_9.out).2.2 x11_1 p329 q329
       cases e329
       obtain ⟨ce329, hce329, hMe329, hcc329⟩ := Kd.V_get HO_9.out [] x11_1 p329 (by first | exact q329 | exact od_ | (have e_ := (Kd.V_reads' HO_9.out).1; omega))
       obtain ⟨ua329_0, uc329_0, rfl, ul329_0, ge329_0⟩ := Kd.FK_slice_open hMe329
       have hv329_0 := hcc329 0 _ rfl
       rw [Nat.add_zero, show ((Kd.slice 74 k74)).sz = 1 from rfl, Nat.mul_one] at hv329_0
       replace hv329_0 := Option.some.inj (hv329_0.symm.trans hx329_0)
       injection hv329_0 with hva_ hvn_ hvc_
       rw [hva_] at ge329_0
       rw [hvc_] at ul329_0
       have HL329_0 := Aside0.mk (show Kd.V k74 74 _ w.heap.size _ _ (rd_L11 l0 x11_1) from Kd.V_mk ul329_0 ge329_0)
       clear hva_ hvn_ hvc_ ge329_0 ul329_0
       clear hcc329 hce329
       have HR329_0 := Aside0.mk hi329_0
       have HC329_0 := Aside0.mk hl329_0
       clear hi329_0 hl329_0
       replace p329 := eq_true p329
       replace q329 := eq_true q329
       go_wp2
       go_roundg k1
       case measure => have := HK1.out; omega
       case rel => exact ⟨(wrap64 (x3_1 + ((rd_L11 l0 x11_1).length : Int))), (wrap64 (x11_1 + 1)), rs_, rs_, H', ⟨by have := HK1.out; omega⟩, ⟨by (with_reducible repeat (first | apply Kd.V_alloc | apply Kd.V_drewN | apply Kd.V_drew)); exact HO_0.out⟩, ⟨by (with_reducible repeat (first | apply Kd.V_alloc | apply Kd.V_drewN | apply Kd.V_drew)); exact HO_9.out⟩, ⟨bb_⟩⟩
     ·rw [if_neg c4] at H
      exact absurd H (by simp)
    ·rw [if_neg c3] at H
     exact absurd H (by simp)
   ·rw [if_neg c2] at H
    have c2b0 : decide (x11_1 < (l0.length : Int)) = false := decide_eq_false c2
    clear c2
    replace H := Option.bind_eq_some_iff.mp H
    obtain ⟨t330, A60, H⟩ := H
    replace H : (impl_Counted_100.l1 k1 t330 l0 (l0.length : Int) 0) = some r := H
    have A6 := Aside0.mk A60
    clear A60
    have H' := Aside0.mk H
    clear H
    go_wp2_with (first | ((with_reducible refine gate_callee (f := 122) rfl ?_); refine gsL_ (some 24) Try.func122 #[.slice none 0 0, .int .i64 x3_1] ?_; (refine (impl_Counted_122.calls x3_1 t330 _ A6.out).mono ?_); rintro e w7 ⟨v331, rfl, ho0, hb⟩; refine ⟨_, rfl, ?_⟩; have HO332 := Aside0.mk (Kd.N_lower (Kd.N_mono (ok' := fun k_ => (P0_ k_ ∨ w.heap.size ≤ k_)) (Kd.S_N (Kd.S_bound ho0)) (fun k_ hk_ => (.inr (Nat.le_trans (below_size bb_) hk_.2.1)))) (below_size bb_)); replace HO_0 := Aside0.mk (Kd.V_elder' (by (with_reducible repeat (first | apply Kd.V_alloc | apply Kd.V_drewN | apply Kd.V_drew)); exact HO_0.out) (Kd.S_base ho0) hb); replace HO_9 := Aside0.mk (Kd.V_elder' (by (with_reducible repeat (first | apply Kd.V_alloc | apply Kd.V_drewN | apply Kd.V_drew)); exact HO_9.out) (Kd.S_base ho0) hb); replace HB := bs_ hb; (try clear hb); (try clear hb2); (try clear hk); (try clear hi); (try clear ho0)))
    go_loopg [6, 27] k1 (fun kq v6 v27 w' => ∃ (x6_2 : List (S74)) (x27_2 : Int), v27 = .int .i64 x27_2 ∧ Aside0 (impl_Counted_100.l1 kq x6_2 l0 (l0.length : Int) x27_2 = some r) ∧ Aside0 (kq ≤ k1) ∧ Aside0 (Kd.N k74 74 w' w.heap.size (fun k_ => (P0_ k_ ∨ w.heap.size ≤ k_)) v6 x6_2) ∧ Aside0 (Kd.V (Kd.slice 74 k74) 38 w' w.heap.size (fun k_ => (P0_ k_ ∨ w.heap.size ≤ k_) ∧ some k_ ≠ (v6 : Value).ownBlock) (.slice A0 l0.length c0) l0) ∧ Aside0 (Below w.heap.size w w'))
    case atStart => exact ⟨(t330), (0), rs_, H', ⟨Nat.le_refl _⟩, ⟨by (with_reducible repeat (first | apply Kd.N_alloc | apply Kd.N_drewN | apply Kd.N_drew)); exact HO332.out⟩, ⟨by (with_reducible repeat (first | apply Kd.V_alloc | apply Kd.V_drewN | apply Kd.V_drew)); exact HO_0.out⟩, ⟨bb_⟩⟩
    case round =>
     clear H'
     try clear c1
     try clear c2
     try clear c2b0
     try clear p2
     try clear c3
     try clear c3b0
     try clear p3
     try clear q3
     try clear hx3
     try clear c4
     try clear c4b0
     try clear c5
     try clear c5b0
     try clear p6
     try clear hx329_0
     try clear p329
     try clear q329
     obtain ⟨x6_2, x27_2, rfl, HA, HK2, HO_6, HO_25, HB⟩ := hrel
     cases gk with
     | zero => exact absurd HA.out (by simp [impl_Counted_100.l1])
     | succ k2 =>
      have H := HA.out
      clear HA
      simp only [impl_Counted_100.l1] at H
      by_cases c8 : x27_2 < (l0.length : Int)
      ·rw [if_pos c8] at H
       have c8b0 : decide (x27_2 < (l0.length : Int)) = true := decide_eq_true c8
       clear c8
       by_cases c9 : 0 ≤ x27_2
       ·rw [if_pos c9] at H
        have c9b0 : decide (0 ≤ x27_2) = true := decide_eq_true c9
        clear c9
        by_cases c10 : x27_2 < (l0.length : Int)
        ·rw [if_pos c10] at H
         have c10b0 : decide (x27_2 < (l0.length : Int)) = true := decide_eq_true c10
         clear c10
         by_cases c11 : x6_2.length + (rd_L11 l0 x27_2).length < 4398046511104
         ·rw [if_pos c11] at H
          have LMc11 := Aside0.mk c11
          clear c11
          obtain ⟨y334, hy334⟩ : ∃ y_ : List (S74), y_ = (x6_2 ++ (rd_L11 l0 x27_2)) := ⟨_, rfl⟩
          replace H : (impl_Counted_100.l1 k2 y334 l0 (l0.length : Int) (wrap64 (x27_2 + 1))) = some r := by first | (rw [hy334]; with_reducible exact H) | (have H2_ := (Option.bind_some _ _).symm.trans H; rw [hy334]; with_reducible exact H2_) | (have H2_ := (Option.bind_some _ _).symm.trans H; with_reducible exact H2_) | with_reducible exact H | (rw [hy334]; exact H) | exact H
          have Ny334 := Aside0.mk hy334
          clear hy334
          have H' := Aside0.mk H
          clear H
          have p333 : 0 ≤ (x27_2 : Int) := od_
          have q333 : x27_2 < (l0.length : Int) := od_
          obtain ⟨ad333, A333_0, c333_0, e333, hx333_0, hl333_0, hi333_0⟩ := at_L11 (Kd.V_reads' HO_25.out).2.2 x27_2 p333 q333
          cases e333
          obtain ⟨ce333, hce333, hMe333, hcc333⟩ := Kd.V_get HO_25.out [] x27_2 p333 (by first | exact q333 | exact od_ | (have e_ := (Kd.V_reads' HO_25.out).1; omega))
          obtain ⟨ua333_0, uc333_0, rfl, ul333_0, ge333_0⟩ := Kd.FK_slice_open hMe333
          have hv333_0 := hcc333 0 _ rfl
          rw [Nat.add_zero, show ((Kd.slice 74 k74)).sz = 1 from rfl, Nat.mul_one] at hv333_0
          replace hv333_0 := Option.some.inj (hv333_0.symm.trans hx333_0)
          injection hv333_0 with hva_ hvn_ hvc_
          rw [hva_] at ge333_0
          rw [hvc_] at ul333_0
          have HL333_0 := Aside0.mk (show Kd.V k74 74 _ w.heap.size _ _ (rd_L11 l0 x27_2) from Kd.V_mk ul333_0 ge333_0)
          clear hva_ hvn_ hvc_ ge333_0 ul333_0
          clear hcc333 hce333
          have HR333_0 := Aside0.mk hi333_0
          have HC333_0 := Aside0.mk hl333_0
          clear hi333_0 hl333_0
          replace p333 := eq_true p333
          replace q333 := eq_true q333
          go_wp2_with (first | ((with_reducible refine gate_builtin (b := .append) (xs := #[.tmp 31, .tmp 32]) rfl ?_); at_builtin; refine Kd.N_append_rows k74 (w0 := w) w.heap.size rfl (.tmp 31) (.tmp 32) 38 74 (.agg #[(.slice none 0 0), (.int .i64 0)]) 32 rfl Try.underlying38 info74 rfl (by decide) (by omega) u6 x6_2 (rd_L11 l0 x27_2) _ _ _ (fun k_ => (P0_ k_ ∨ w.heap.size ≤ k_)) (fun k_ => ((fun k_ => (P0_ k_ ∨ w.heap.size ≤ k_))) k_ ∧ some k_ ≠ (u6 : Value).ownBlock) rfl rfl ?aO ?aR (fun _ hk => hk) ?aF ?aB ?aS ?aL ?_; (case aR => exact (by skip; exact Kd.V_F (Kd.V_mono (ok' := (fun k_ => ((fun k_ => (P0_ k_ ∨ w.heap.size ≤ k_))) k_ ∧ some k_ ≠ (u6 : Value).ownBlock)) (HL333_0.out) (fun k_ hk => ⟨hk.1, hk.2⟩)))); (case aB => exact bb_); (case aF => exact (fun k_ hk => (.inr (Nat.le_trans (below_size bb_) hk)))); (case aO => exact (by (with_reducible repeat (first | apply Kd.N_alloc | apply Kd.N_drewN | apply Kd.N_drew)); exact HO_6.out)); (case aS => exact (below_size bb_)); (case aL => have := LMc11.out; omega); intro v335 w12 ho hb hg hat; rw [← Ny334.out] at ho; have HO336 := Aside0.mk (ho); replace HO_25 := Aside0.mk (Kd.V_afterv (ok := (fun k_ => (P0_ k_ ∨ w.heap.size ≤ k_))) (by (with_reducible repeat (first | apply Kd.V_alloc | apply Kd.V_drewN | apply Kd.V_drew)); exact HO_25.out) hg hat); replace HL333_0 := Aside0.mk (Kd.V_afterv (ok := (fun k_ => (P0_ k_ ∨ w.heap.size ≤ k_))) (by (with_reducible repeat (first | apply Kd.V_alloc | apply Kd.V_drewN | apply Kd.V_drew)); exact HL333_0.out) hg hat); replace HB := Aside0.mk (hb); clear HO_6; clear ho hb hg hat))
          go_roundg k2
          case measure => have := HK1.out; have := HK2.out; omega
          case rel => exact ⟨(y334), (wrap64 (x27_2 + 1)), rs_, H', ⟨by have := HK1.out; have := HK2.out; omega⟩, ⟨by (with_reducible repeat (first | apply Kd.N_alloc | apply Kd.N_drewN | apply Kd.N_drew)); exact HO336.out⟩, ⟨by (with_reducible repeat (first | apply Kd.V_alloc | apply Kd.V_drewN | apply Kd.V_drew)); exact HO_25.out⟩, ⟨bb_⟩⟩
         ·rw [if_neg c11] at H
          exact absurd H (by simp)
        ·rw [if_neg c10] at H
         exact absurd H (by simp)
       ·rw [if_neg c9] at H
        exact absurd H (by simp)
      ·rw [if_neg c8] at H
       have c8b0 : decide (x27_2 < (l0.length : Int)) = false := decide_eq_false c8
       clear c8
       obtain rfl := Option.some.inj H
       go_wp2
       go_ret
       exact ⟨_, by first | rfl | (simp [errW_none, errW_some] <;> rfl) | (simp [*, errW_none, errW_some] <;> rfl), by (with_reducible repeat (first | apply Kd.N_alloc | apply Kd.N_drewN | apply Kd.N_drew)); exact HO_6.out, by repeat (first | (with_reducible first | exact HB.out | apply below_alloc | apply pw_below_drewN | apply below_drew1) | exact HB.out)⟩

/-! ### impl_sum: function 67 -/
def impl_sum.f (k : Nat) (a0_0 : Int) (l0_1 : List (S74)) (a1_0 : Int) (l1_1 : List (S74)) : Option (Int × (List (S74))) := (impl_Counted_100.f k (([l0_1, l1_1] : List (List (S74))))).bind fun t343 => ((impl_gathered.f k a0_0 t343).bind fun bt346 => (some (bt346.1, bt346.2)))
def impl_sum.T1 : Bool × List (List Nat × List Nat) := (true, [([], []), ([0], [0]), ([], []), ([2], [2]), ([], []), ([4], [4]), ([3, 5], [3, 5]), ([6], [6]), ([1, 7, 7], [1, 7]), ([8, 8, 0, 1, 2, 3, 4, 5, 6, 7, 8], [8])])
def impl_sum.B1 : List Nat := [0, 1, 0, 4, 0, 16, 60, 124, 255, 511]
theorem impl_sum.tab1 : rtab .any (opsOf Try.f67 1) = impl_sum.T1 := by kernel_rfl
theorem impl_sum.bits1 : waitsOk impl_sum.T1.2 impl_sum.B1 = true := by kernel_rfl
set_option maxHeartbeats 8000000 in
theorem impl_sum.calls (k : Nat) (a0_0 : Int) (P0_1_ : Nat → Prop) (A0_1 : Option Addr) (c0_1 : Nat) (l0_1 : List (S74)) (a1_0 : Int) (P1_1_ : Nat → Prop) (A1_1 : Option Addr) (c1_1 : Nat) (l1_1 : List (S74)) (r1 : Int) (r2 : List (S74)) (w : World) (hs0_1 : Kd.V k74 74 w w.heap.size (fun k_ => P0_1_ k_) (.slice A0_1 l0_1.length c0_1) l0_1) (hs1_1 : Kd.V k74 74 w w.heap.size (fun k_ => P1_1_ k_) (.slice A1_1 l1_1.length c1_1) l1_1) (h : impl_sum.f k a0_0 l0_1 a1_0 l1_1 = some (r1, r2)) :
  Calls Try.prog 67 #[.agg #[.int .i64 a0_0, .slice A0_1 l0_1.length c0_1], .agg #[.int .i64 a1_0, .slice A1_1 l1_1.length c1_1]] w fun e w' => ∃ v1_ : Value, e = .returned (.agg #[.int .i64 r1, v1_]) ∧ Kd.N k74 74 w' w.heap.size (fun k_ => ((P0_1_ k_ ∨ P1_1_ k_) ∨ w.heap.size ≤ k_)) v1_ r2 ∧ Below w.heap.size w w' := by
 have hu40 := Try.underlying40
 have HO0_1 := Aside0.mk (show Kd.V k74 74 w w.heap.size (fun k_ => ((P0_1_ k_ ∨ P1_1_ k_) ∨ w.heap.size ≤ k_)) (.slice A0_1 l0_1.length c0_1) l0_1 from Kd.V_mono hs0_1 (fun k_ hk => .inl (.inl hk)))
 have HO1_1 := Aside0.mk (show Kd.V k74 74 w w.heap.size (fun k_ => ((P0_1_ k_ ∨ P1_1_ k_) ∨ w.heap.size ≤ k_)) (.slice A1_1 l1_1.length c1_1) l1_1 from Kd.V_mono hs1_1 (fun k_ hk => .inl (.inr hk)))
 have HB := Aside0.mk (Below.refl w.heap.size w)
 have H : ((impl_Counted_100.f k (([l0_1, l1_1] : List (List (S74))))).bind fun t343 => ((impl_gathered.f k a0_0 t343).bind fun bt346 => (some (bt346.1, bt346.2)))) = some (r1, r2) := h
 clear h
 obtain ⟨y340, hy340⟩ : ∃ y_ : List (List (S74)), y_ = (([l0_1, l1_1] : List (List (S74)))) := ⟨_, rfl⟩
 replace H : ((impl_Counted_100.f k y340).bind fun t343 => ((impl_gathered.f k a0_0 t343).bind fun bt346 => (some (bt346.1, bt346.2)))) = some (r1, r2) := by first | (rw [hy340]; with_reducible exact H) | (have H2_ := (Option.bind_some _ _).symm.trans H; rw [hy340]; with_reducible exact H2_) | (have H2_ := (Option.bind_some _ _).symm.trans H; with_reducible exact H2_) | with_reducible exact H | (rw [hy340]; exact H) | exact H
 have Ny340 := Aside0.mk hy340
 clear hy340
 replace H := Option.bind_eq_some_iff.mp H
 obtain ⟨t343, A30, H⟩ := H
 replace H : ((impl_gathered.f k a0_0 t343).bind fun bt346 => (some (bt346.1, bt346.2))) = some (r1, r2) := H
 have A3 := Aside0.mk A30
 clear A30
 replace H := Option.bind_eq_some_iff.mp H
 obtain ⟨⟨t346, t347⟩, A40, H⟩ := H
 replace H : (some (t346, t347)) = some (r1, r2) := H
 have A4 := Aside0.mk A40
 clear A40
 simp only [Option.some.injEq, Prod.mk.injEq] at H
 obtain ⟨rfl, rfl⟩ := H
 go_enter Try.func67, Try.ntmps67
 try go_wp2_with (first | ((with_reducible refine gate_dst (N := 2) rfl ?_); refine bx_ 2 #[.int .i64 a0_0, .slice A0_1 l0_1.length c0_1] 40 ?_; intro gb337 hg w5 hbox hb; have BK337 := Aside0.mk (hbox); have GW337 := gw_ hg; have GE337 := gw_ hg; replace HO0_1 := Aside0.mk (Kd.V_below (Kd.V_elderB (by (with_reducible repeat (first | apply Kd.V_alloc | apply Kd.V_drewN | apply Kd.V_drew)); exact HO0_1.out) gb337 (Nat.le_of_eq hg.symm)) hb); replace HO1_1 := Aside0.mk (Kd.V_below (Kd.V_elderB (by (with_reducible repeat (first | apply Kd.V_alloc | apply Kd.V_drewN | apply Kd.V_drew)); exact HO1_1.out) gb337 (Nat.le_of_eq hg.symm)) hb); replace HB := bs_ hb; clear hb hbox hg) | ((with_reducible refine gate_dst (N := 3) rfl ?_); refine bx_ 3 #[.int .i64 a1_0, .slice A1_1 l1_1.length c1_1] 40 ?_; intro gb338 hg w6 hbox hb; have BK338 := Aside0.mk (hbox); have GW338 := gw_ hg; have GE338 := gw_ hg; have NB337_338 := nl_ hg BK337; have NB338_337 := ng_ hg BK337; replace HO0_1 := Aside0.mk (Kd.V_below (Kd.V_elderB (by (with_reducible repeat (first | apply Kd.V_alloc | apply Kd.V_drewN | apply Kd.V_drew)); exact HO0_1.out) gb338 (Nat.le_of_eq hg.symm)) hb); replace HO1_1 := Aside0.mk (Kd.V_below (Kd.V_elderB (by (with_reducible repeat (first | apply Kd.V_alloc | apply Kd.V_drewN | apply Kd.V_drew)); exact HO1_1.out) gb338 (Nat.le_of_eq hg.symm)) hb); replace BK337 := bkb_ BK337 hb; replace HB := bs_ hb; clear hb hbox hg) | ((with_reducible refine gate_dst (N := 4) rfl ?_); refine bx_ 4 #[.int .i64 0, .slice none 0 0] 40 ?_; intro gb339 hg w7 hbox hb; have BK339 := Aside0.mk (hbox); have GW339 := gw_ hg; have GE339 := gw_ hg; have NB337_339 := nl_ hg BK337; have NB339_337 := ng_ hg BK337; have NB338_339 := nl_ hg BK338; have NB339_338 := ng_ hg BK338; replace HO0_1 := Aside0.mk (Kd.V_below (Kd.V_elderB (by (with_reducible repeat (first | apply Kd.V_alloc | apply Kd.V_drewN | apply Kd.V_drew)); exact HO0_1.out) gb339 (Nat.le_of_eq hg.symm)) hb); replace HO1_1 := Aside0.mk (Kd.V_below (Kd.V_elderB (by (with_reducible repeat (first | apply Kd.V_alloc | apply Kd.V_drewN | apply Kd.V_drew)); exact HO1_1.out) gb339 (Nat.le_of_eq hg.symm)) hb); replace BK337 := bkb_ BK337 hb; replace BK338 := bkb_ BK338 hb; replace HB := bs_ hb; clear hb hbox hg))
 replace HO0_1 := Aside0.mk (Kd.V_drew HO0_1.out)
 replace HO1_1 := Aside0.mk (Kd.V_drew HO1_1.out)
 replace BK337 := Aside0.mk (blk_drew BK337.out)
 replace BK338 := Aside0.mk (blk_drew BK338.out)
 replace BK339 := Aside0.mk (blk_drew BK339.out)
 replace HB := Aside0.mk (below_drew1 HB.out)
 refine start_ (n := 10) (S := fun w' => w'.cell? ⟨gb337, 0, none⟩ = some (.int .i64 a0_0) ∧ w'.cell? ⟨gb337, 1, none⟩ = some (.slice A0_1 l0_1.length c0_1) ∧ w'.cell? ⟨gb338, 0, none⟩ = some (.int .i64 a1_0) ∧ w'.cell? ⟨gb338, 1, none⟩ = some (.slice A1_1 l1_1.length c1_1)) (ds := []) (tf 0 10) (by kernel_rfl) rfl rfl ⟨bc_ BK337 0, bc_ BK337 1, bc_ BK338 0, bc_ BK338 1⟩ (fun hHeld => ?_); refine with_tabW impl_sum.tab1 impl_sum.bits1 (fun HT_ HW_ => ?_)
 generalize w7.drew = w8 at HO0_1 HO1_1 BK337 BK338 BK339 HB hHeld ⊢
 refine pl_ ?_
 refine plx_ 2 #[true, false, true, false, false, false, false, false, false, false] ?_
 refine plx_ 4 #[true, false, true, false, true, false, false, false, false, false] ?_
 refine tlx_ 1 #[true, true, true, false, true, false, false, false, false, false] ?_
 refine tlx_ 3 (tf 5 5) ?_
 refine tl_ ?_
 refine one_ (i := 6) (N := some 11) (tf 7 3) rfl rfl (one_of HT_.out (by kernel_rfl)) (by decide) (fun K hK => ?_)
 refine Kd.N_lit_step (Kd.slice 74 k74) _ 38 ?hg (N' := 11) ?hd (xs := ([l0_1, l1_1] : List (List (S74)))) (inner := [.slice A0_1 l0_1.length c0_1, .slice A1_1 l1_1.length c1_1]) (ok := (fun k_ => ((P0_1_ k_ ∨ P1_1_ k_) ∨ w.heap.size ≤ k_) ∧ k_ ≠ gb337 ∧ k_ ≠ gb338 ∧ k_ ≠ gb339)) (okp := (fun k_ => ((P0_1_ k_ ∨ P1_1_ k_) ∨ w.heap.size ≤ k_) ∧ k_ ≠ gb337 ∧ k_ ≠ gb338 ∧ k_ ≠ gb339)) ?hr ?hp (fun _ hk => hk) ((show ∀ k_, w8.heap.size ≤ k_ → (fun k_ => ((P0_1_ k_ ∨ P1_1_ k_) ∨ w.heap.size ≤ k_) ∧ k_ ≠ gb337 ∧ k_ ≠ gb338 ∧ k_ ≠ gb339) k_ from fun k_ hk => ⟨(.inr (Nat.le_trans (below_size bb_) hk)), Kd.freshB (g := gb337) (o := .cells #[.int .i64 a0_0, .slice A0_1 l0_1.length c0_1] 40 (0, 0)) (bkx_ BK337.out) k_ hk, Kd.freshB (g := gb338) (o := .cells #[.int .i64 a1_0, .slice A1_1 l1_1.length c1_1] 40 (0, 0)) (bkx_ BK338.out) k_ hk, Kd.freshB (g := gb339) (o := .cells #[.int .i64 0, .slice none 0 0] 40 (0, 0)) (bkx_ BK339.out) k_ hk⟩) _ (Nat.le_refl _)) (Below.refl _ _) (Nat.le_refl _) (by simp) ?_; (case hd => rfl); (case hg => rfl); (case hr => first | (go_simp; done) | (go_simp; rfl)); (case hp => exact (Reps.one (show Kd.FK (Kd.slice 74 k74) _ _ l0_1 [.slice A0_1 l0_1.length c0_1] from (Kd.FK_slice_mk (Kd.V_reads' (Kd.V_mono (ok' := (fun k_ => ((P0_1_ k_ ∨ P1_1_ k_) ∨ w.heap.size ≤ k_) ∧ k_ ≠ gb337 ∧ k_ ≠ gb338 ∧ k_ ≠ gb339)) (HO0_1.out) (fun k_ hk => ⟨hk.1.1.1, ⟨hk.1.1.2, ⟨hk.1.2, hk.2⟩⟩⟩))).2.1 (Kd.V_F (Kd.V_mono (ok' := (fun k_ => ((P0_1_ k_ ∨ P1_1_ k_) ∨ w.heap.size ≤ k_) ∧ k_ ≠ gb337 ∧ k_ ≠ gb338 ∧ k_ ≠ gb339)) (HO0_1.out) (fun k_ hk => ⟨hk.1.1.1, ⟨hk.1.1.2, ⟨hk.1.2, hk.2⟩⟩⟩))))) (Reps.one (show Kd.FK (Kd.slice 74 k74) _ _ l1_1 [.slice A1_1 l1_1.length c1_1] from (Kd.FK_slice_mk (Kd.V_reads' (Kd.V_mono (ok' := (fun k_ => ((P0_1_ k_ ∨ P1_1_ k_) ∨ w.heap.size ≤ k_) ∧ k_ ≠ gb337 ∧ k_ ≠ gb338 ∧ k_ ≠ gb339)) (HO1_1.out) (fun k_ hk => ⟨hk.1.1.1, ⟨hk.1.1.2, ⟨hk.1.2, hk.2⟩⟩⟩))).2.1 (Kd.V_F (Kd.V_mono (ok' := (fun k_ => ((P0_1_ k_ ∨ P1_1_ k_) ∨ w.heap.size ≤ k_) ∧ k_ ≠ gb337 ∧ k_ ≠ gb338 ∧ k_ ≠ gb339)) (HO1_1.out) (fun k_ hk => ⟨hk.1.1.1, ⟨hk.1.1.2, ⟨hk.1.2, hk.2⟩⟩⟩))))) (Reps.none _ _))))
 intro v341 w9 ho10 hb hg_ hnew_
 clear hg_ hnew_
 (first | rw [← Ny340.out] at ho10 | (simp only [Int.reduceToNat] at ho10; rw [← Ny340.out] at ho10))
 have HO342 := Aside0.mk (Kd.N_lower ho10 (below_size bb_))
 replace HO0_1 := Aside0.mk (Kd.V_elder' (by (with_reducible repeat (first | apply Kd.V_alloc | apply Kd.V_drewN | apply Kd.V_drew)); exact HO0_1.out) (Kd.N_base ho10) hb)
 replace HO1_1 := Aside0.mk (Kd.V_elder' (by (with_reducible repeat (first | apply Kd.V_alloc | apply Kd.V_drewN | apply Kd.V_drew)); exact HO1_1.out) (Kd.N_base ho10) hb)
 replace BK337 := bkb_ BK337 hb
 replace BK338 := bkb_ BK338 hb
 replace BK339 := bkb_ BK339 hb
 replace HB := bs_ hb
 clear hb ho10
 obtain ⟨Ao11, co11, eo11⟩ := Kd.N_slice HO342.out
 (first | subst eo11 | (injection eo11 with f1_ f2_ f3_; have f4_ := f1_.symm; have f5_ := f3_.symm; clear f1_ f2_ f3_; subst f4_; subst f5_))
 refine hK.out _ _ ⟨bc_ BK337 0, bc_ BK337 1, bc_ BK338 0, bc_ BK338 1⟩ (fun hHeld => ?_)
 clear hK K
 refine nm_ ?_
 refine one_ (i := 7) (N := some 12) (tf 8 2) rfl rfl (one_of HT_.out (by kernel_rfl)) (by decide) (fun K hK => ?_)
 refine gs_ Try.func100 #[.slice Ao11 y340.length co11] ?_
 with_reducible refine (impl_Counted_100.calls k (fun k_ => (((P0_1_ k_ ∨ P1_1_ k_) ∨ w.heap.size ≤ k_) ∧ (k_ ≠ gb337 ∧ (k_ ≠ gb338 ∧ k_ ≠ gb339)))) _ _ y340 t343 _ ?side1 A3.out).mono ?_
 (case side1 => exact Kd.N_V (HO342.out))
 rintro e w12 ⟨v344, rfl, ho0, hb⟩
 refine ⟨_, rfl, ?_⟩
 have HO345 := Aside0.mk (Kd.N_lower (Kd.N_mono (ok' := fun k_ => ((P0_1_ k_ ∨ P1_1_ k_) ∨ w.heap.size ≤ k_) ∧ k_ ≠ gb337 ∧ k_ ≠ gb338 ∧ k_ ≠ gb339) ho0 (fun k_ hk_ => ⟨Or.elim hk_ (fun hs_ => hs_.1) (fun hn_ => (.inr (Nat.le_trans (below_size bb_) hn_))), Or.elim hk_ (fun hs_ => hs_.2.1) (fun hn_ => (Kd.freshB (g := gb337) (o := .cells #[.int .i64 a0_0, .slice A0_1 l0_1.length c0_1] 40 (0, 0)) (bkx_ BK337.out) k_ hn_)), Or.elim hk_ (fun hs_ => hs_.2.2.1) (fun hn_ => (Kd.freshB (g := gb338) (o := .cells #[.int .i64 a1_0, .slice A1_1 l1_1.length c1_1] 40 (0, 0)) (bkx_ BK338.out) k_ hn_)), Or.elim hk_ (fun hs_ => hs_.2.2.2) (fun hn_ => (Kd.freshB (g := gb339) (o := .cells #[.int .i64 0, .slice none 0 0] 40 (0, 0)) (bkx_ BK339.out) k_ hn_))⟩)) (below_size bb_))
 replace HO0_1 := Aside0.mk (Kd.V_elder' (by (with_reducible repeat (first | apply Kd.V_alloc | apply Kd.V_drewN | apply Kd.V_drew)); exact HO0_1.out) (Kd.N_base ho0) hb)
 replace HO1_1 := Aside0.mk (Kd.V_elder' (by (with_reducible repeat (first | apply Kd.V_alloc | apply Kd.V_drewN | apply Kd.V_drew)); exact HO1_1.out) (Kd.N_base ho0) hb)
 replace HO342 := Aside0.mk (Kd.N_elder' (by (with_reducible repeat (first | apply Kd.N_alloc | apply Kd.N_drewN | apply Kd.N_drew)); exact HO342.out) (Kd.N_base ho0) hb)
 replace BK337 := bkb_ BK337 hb
 replace BK338 := bkb_ BK338 hb
 replace BK339 := bkb_ BK339 hb
 replace HB := bs_ hb
 (try clear hb)
 (try clear hb2)
 (try clear hk)
 (try clear hi)
 (try clear ho0)
 obtain ⟨Ao13, co13, eo13⟩ := Kd.N_slice HO345.out
 (first | subst eo13 | (injection eo13 with f1_ f2_ f3_; have f4_ := f1_.symm; have f5_ := f3_.symm; clear f1_ f2_ f3_; subst f4_; subst f5_))
 refine hK.out _ _ ⟨bc_ BK337 0, bc_ BK337 1, bc_ BK338 0, bc_ BK338 1⟩ (fun hHeld => ?_)
 clear hK K
 refine nm_ ?_
 refine one_ (i := 8) (N := some 13) (tf 9 1) rfl rfl (one_of HT_.out (by kernel_rfl)) (by decide) (fun K hK => ?_)
 refine gs_ Try.func46 #[.int .i64 a0_0, .slice Ao13 t343.length co13] ?_
 with_reducible refine (impl_gathered.calls k a0_0 (fun k_ => (((P0_1_ k_ ∨ P1_1_ k_) ∨ w.heap.size ≤ k_) ∧ (k_ ≠ gb337 ∧ (k_ ≠ gb338 ∧ k_ ≠ gb339)))) _ _ t343 t346 t347 _ ?side1 A4.out).mono ?_
 (case side1 => exact Kd.N_V (HO345.out))
 rintro e w14 ⟨v348, rfl, ho0, hb⟩
 refine ⟨_, rfl, ?_⟩
 have HO349 := Aside0.mk (Kd.N_lower (Kd.N_mono (ok' := fun k_ => ((P0_1_ k_ ∨ P1_1_ k_) ∨ w.heap.size ≤ k_) ∧ k_ ≠ gb337 ∧ k_ ≠ gb338 ∧ k_ ≠ gb339) ho0 (fun k_ hk_ => ⟨Or.elim hk_ (fun hs_ => hs_.1) (fun hn_ => (.inr (Nat.le_trans (below_size bb_) hn_))), Or.elim hk_ (fun hs_ => hs_.2.1) (fun hn_ => (Kd.freshB (g := gb337) (o := .cells #[.int .i64 a0_0, .slice A0_1 l0_1.length c0_1] 40 (0, 0)) (bkx_ BK337.out) k_ hn_)), Or.elim hk_ (fun hs_ => hs_.2.2.1) (fun hn_ => (Kd.freshB (g := gb338) (o := .cells #[.int .i64 a1_0, .slice A1_1 l1_1.length c1_1] 40 (0, 0)) (bkx_ BK338.out) k_ hn_)), Or.elim hk_ (fun hs_ => hs_.2.2.2) (fun hn_ => (Kd.freshB (g := gb339) (o := .cells #[.int .i64 0, .slice none 0 0] 40 (0, 0)) (bkx_ BK339.out) k_ hn_))⟩)) (below_size bb_))
 replace HO0_1 := Aside0.mk (Kd.V_elder' (by (with_reducible repeat (first | apply Kd.V_alloc | apply Kd.V_drewN | apply Kd.V_drew)); exact HO0_1.out) (Kd.N_base ho0) hb)
 replace HO1_1 := Aside0.mk (Kd.V_elder' (by (with_reducible repeat (first | apply Kd.V_alloc | apply Kd.V_drewN | apply Kd.V_drew)); exact HO1_1.out) (Kd.N_base ho0) hb)
 replace HO342 := Aside0.mk (Kd.N_elder' (by (with_reducible repeat (first | apply Kd.N_alloc | apply Kd.N_drewN | apply Kd.N_drew)); exact HO342.out) (Kd.N_base ho0) hb)
 replace HO345 := Aside0.mk (Kd.N_elder' (by (with_reducible repeat (first | apply Kd.N_alloc | apply Kd.N_drewN | apply Kd.N_drew)); exact HO345.out) (Kd.N_base ho0) hb)
 replace BK337 := bkb_ BK337 hb
 replace BK338 := bkb_ BK338 hb
 replace BK339 := bkb_ BK339 hb
 replace HB := bs_ hb
 (try clear hb)
 (try clear hb2)
 (try clear hk)
 (try clear hi)
 (try clear ho0)
 obtain ⟨Ao16, co16, eo16⟩ := Kd.N_slice HO349.out
 (first | subst eo16 | (injection eo16 with f1_ f2_ f3_; have f4_ := f1_.symm; have f5_ := f3_.symm; clear f1_ f2_ f3_; subst f4_; subst f5_))
 refine hK.out _ _ ⟨bc_ BK337 0, bc_ BK337 1, bc_ BK338 0, bc_ BK338 1⟩ (fun hHeld => ?_)
 clear hK K
 refine nm_ ?_
 refine one_ (i := 9) (N := none) (tf 10 0) rfl rfl (one_of HT_.out (by kernel_rfl)) (by decide) (fun K hK => ?_)
 have hs15 : w14.cell? ⟨gb339, 0, none⟩ = some (.int .i64 0) := bc_ BK339 0
 have hfs15 := blk_frozen BK339.out 0
 have hns15_0 := NB337_339.out
 have hns15_1 := NB338_339.out
 have hms15_0 := NB339_337.out
 have hms15_1 := NB339_338.out
 have hs17 : w14.cell? ⟨gb339, 1, none⟩ = some (.slice none 0 0) := bc_ BK339 1
 have hfs17 := blk_frozen BK339.out 1
 have hns17_0 := NB337_339.out
 have hns17_1 := NB338_339.out
 have hms17_0 := NB339_337.out
 have hms17_1 := NB339_338.out
 refine skip_ (w1 := ?_) (by rfl) rfl ?_ ?_
 rotate_left
 ·go_simp
  rfl
 refine hK.out _ _ ⟨((cell_far (p := ⟨gb339, _, none⟩) NB337_339.out _).trans (((cell_far (p := ⟨gb339, _, none⟩) NB337_339.out _).trans (hHeld.1)))), ((cell_far (p := ⟨gb339, _, none⟩) NB337_339.out _).trans (((cell_far (p := ⟨gb339, _, none⟩) NB337_339.out _).trans (hHeld.2.1)))), ((cell_far (p := ⟨gb339, _, none⟩) NB338_339.out _).trans (((cell_far (p := ⟨gb339, _, none⟩) NB338_339.out _).trans (hHeld.2.2.1)))), ((cell_far (p := ⟨gb339, _, none⟩) NB338_339.out _).trans (((cell_far (p := ⟨gb339, _, none⟩) NB338_339.out _).trans (hHeld.2.2.2))))⟩ (fun hHeld => ?_)
 clear hK K
 refine done_ (done_of HT_.out (by kernel_rfl)) ?_
 try go_wp2
 refine bodyPost_ret (results_cell_row rfl _ _ gb339 40 #[.int .i64 t346, .slice Ao16 t347.length co16] (0, 0) _ rfl (bp2_ (bkx_ BK339.out)) Try.underlying40 rfl (by kernel_rfl)) rfl ?_
 exact ⟨_, by first | rfl | (simp [errW_none, errW_some] <;> rfl) | (simp [*, errW_none, errW_some] <;> rfl), by (with_reducible repeat (first | apply Kd.N_alloc | apply Kd.N_drewN | apply Kd.N_drew)); exact Kd.N_mono (Kd.N_far (p := ⟨gb339, 1, none⟩) (Kd.N_far (p := ⟨gb339, 0, none⟩) (Kd.N_mono HO349.out (fun k_ hk => (⟨hk, hk.2.2.2⟩ : _ ∧ k_ ≠ gb339))) (fun _ hk => hk.2) (.int .i64 t346)) (fun _ hk => hk.2) (.slice Ao16 t347.length co16)) (fun _ hk => hk.1.1), by repeat (first | (with_reducible first | exact HB.out | apply below_alloc | apply pw_below_drewN | apply below_drew1 | refine below_set ?_ GE337.out | refine below_set ?_ GE338.out | refine below_set ?_ GE339.out) | exact HB.out)⟩

/-! ### impl_ChangeOk_1: function 64 -/
def impl_ChangeOk_1.f (k : Nat) (a0_0 : ByteArray) (a0_1 : Int) (l0_2 : List (S74)) (l1 : List (S91)) : Option (Bool) := (impl_findRel.f l1 a0_0).bind fun bt351 => (if bt351.2.2.2 = true then ((impl_BagOk.f k a0_1 l0_2).bind fun t358 => (if t358 = true then (if a0_1 = bt351.2.1 then ((impl_sum.f k bt351.2.1 bt351.2.2.1 a0_1 l0_2).bind fun bt359 => ((impl_Plain.f k bt359.1 bt359.2).bind fun t363 => (some t363))) else (some false)) else (some false))) else (some false))
set_option maxHeartbeats 8000000 in
theorem impl_ChangeOk_1.calls (k : Nat) (B : Nat) (a0_0 : ByteArray) (a0_1 : Int) (A0_2 : Option Addr) (c0_2 : Nat) (l0_2 : List (S74)) (A1 : Option Addr) (c1 : Nat) (l1 : List (S91)) (r : Bool) (w : World) (hBl : B < w.heap.size) (hcB : w.cell? ⟨B, 0, none⟩ = some (.slice A1 l1.length c1)) (hr0_2 : Kd.C k74 w A0_2 l0_2.length l0_2) (hc0_2 : l0_2.length ≤ c0_2) (hr1 : Kd.C k91 w A1 l1.length l1) (hc1 : l1.length ≤ c1) (h : impl_ChangeOk_1.f k a0_0 a0_1 l0_2 l1 = some r) :
  Calls Try.prog 64 #[.agg #[.string a0_0, .int .i64 a0_1, .slice A0_2 l0_2.length c0_2], .pointer (some ⟨B, 0, none⟩)] w fun e w' => e = .returned (.bool r) ∧ Below w.heap.size w w' := by
 have hu91 := Try.underlying91
 have hu40 := Try.underlying40
 have HR0_2 := Aside0.mk hr0_2
 have HC0_2 := Aside0.mk hc0_2
 clear hr0_2 hc0_2
 have HR1 := Aside0.mk hr1
 have HC1 := Aside0.mk hc1
 clear hr1 hc1
 have HcB := Aside0.mk hcB
 have HBl := Aside0.mk hBl
 clear hcB hBl
 have HB := Aside0.mk (Below.refl w.heap.size w)
 have H : ((impl_findRel.f l1 a0_0).bind fun bt351 => (if bt351.2.2.2 = true then ((impl_BagOk.f k a0_1 l0_2).bind fun t358 => (if t358 = true then (if a0_1 = bt351.2.1 then ((impl_sum.f k bt351.2.1 bt351.2.2.1 a0_1 l0_2).bind fun bt359 => ((impl_Plain.f k bt359.1 bt359.2).bind fun t363 => (some t363))) else (some false)) else (some false))) else (some false))) = some r := h
 clear h
 replace H := Option.bind_eq_some_iff.mp H
 obtain ⟨⟨t351, t352, t353, t356⟩, A30, H⟩ := H
 replace H : (if t356 = true then ((impl_BagOk.f k a0_1 l0_2).bind fun t358 => (if t358 = true then (if a0_1 = t352 then ((impl_sum.f k t352 t353 a0_1 l0_2).bind fun bt359 => ((impl_Plain.f k bt359.1 bt359.2).bind fun t363 => (some t363))) else (some false)) else (some false))) else (some false)) = some r := H
 have A3 := Aside0.mk A30
 clear A30
 by_cases c4 : t356 = true
 ·subst c4
  have H1 : ((impl_BagOk.f k a0_1 l0_2).bind fun t358 => (if t358 = true then (if a0_1 = t352 then ((impl_sum.f k t352 t353 a0_1 l0_2).bind fun bt359 => ((impl_Plain.f k bt359.1 bt359.2).bind fun t363 => (some t363))) else (some false)) else (some false))) = some r := by rw [if_pos rfl] at H; exact H
  clear H
  have H := H1
  clear H1
  replace H := Option.bind_eq_some_iff.mp H
  obtain ⟨t358, A50, H⟩ := H
  replace H : (if t358 = true then (if a0_1 = t352 then ((impl_sum.f k t352 t353 a0_1 l0_2).bind fun bt359 => ((impl_Plain.f k bt359.1 bt359.2).bind fun t363 => (some t363))) else (some false)) else (some false)) = some r := H
  have A5 := Aside0.mk A50
  clear A50
  by_cases c6 : t358 = true
  ·subst c6
   have H1 : (if a0_1 = t352 then ((impl_sum.f k t352 t353 a0_1 l0_2).bind fun bt359 => ((impl_Plain.f k bt359.1 bt359.2).bind fun t363 => (some t363))) else (some false)) = some r := by rw [if_pos rfl] at H; exact H
   clear H
   have H := H1
   clear H1
   by_cases c7 : a0_1 = t352
   ·rw [if_pos c7] at H
    have c7b0 : (a0_1 == t352) = true := beq_iff_eq.mpr c7
    have c7b1 : (a0_1 != t352) = false := bne_eq_false_iff_eq.mpr c7
    clear c7
    replace H := Option.bind_eq_some_iff.mp H
    obtain ⟨⟨t359, t360⟩, A80, H⟩ := H
    replace H : ((impl_Plain.f k t359 t360).bind fun t363 => (some t363)) = some r := H
    have A8 := Aside0.mk A80
    clear A80
    replace H := Option.bind_eq_some_iff.mp H
    obtain ⟨t363, A90, H⟩ := H
    replace H : (some t363) = some r := H
    have A9 := Aside0.mk A90
    clear A90
    obtain rfl := Option.some.inj H
    go_enter Try.func64, Try.ntmps64
    go_wp2_with (first | ((with_reducible refine gate_dst (N := 2) rfl ?_); refine bx_ 2 #[.string a0_0, .int .i64 a0_1, .slice A0_2 l0_2.length c0_2] 91 ?_; intro gb350 hg w10 hbox hb; have BK350 := Aside0.mk (hbox); have GW350 := gw_ hg; have GE350 := gw_ hg; replace HB := bs_ hb; clear hb hbox hg; obtain ⟨hcz11_0, hcz11_1, hcz11_2, hfz11_0, hfz11_1, hfz11_2⟩ := b3_ BK350; have hcB_ := (HB.out.cell (p := ⟨B, 0, none⟩) HBl.out).trans HcB.out) | ((with_reducible refine gate_callee (f := 65) rfl ?_); refine gsL_ (some 10) Try.func65 #[.slice A1 l1.length c1, .string a0_0] ?_; (with_reducible refine (impl_findRel.calls (fun k_ => k_ < w.heap.size) _ _ l1 a0_0 t351 t352 t353 true _ ?side1 A3.out).mono ?_); (case side1 => exact Kd.V_mk HC1.out (Kd.F_below (Kd.C_F k91_heap HR1.out) bb_)); rintro e w12 ⟨v354, rfl, ho0, hb⟩; refine ⟨_, rfl, ?_⟩; have HO355 := Aside0.mk (Kd.V_lower (Kd.V_mono (ok' := fun k_ => k_ ≠ gb350) ho0 (fun k_ hk_ => Or.elim hk_ (fun hs_ => fun e_ => Nat.not_le.2 hs_ (by rw [e_]; exact GW350.out)) (fun hn_ => (Kd.freshB (g := gb350) (o := .cells #[.string a0_0, .int .i64 a0_1, .slice A0_2 l0_2.length c0_2] 91 (0, 0)) (bkx_ BK350.out) k_ hn_)))) (below_size bb_)); replace BK350 := bkb_ BK350 hb; replace HB := bs_ hb; (try clear hb); (try clear hb2); (try clear hk); (try clear hi); (try clear ho0)) | ((with_reducible refine gate_dst (N := 4) rfl ?_); refine bx_ 4 #[.string (⟨#[]⟩ : ByteArray), .int .i64 0, .slice none 0 0] 91 ?_; intro gb357 hg w13 hbox hb; have BK357 := Aside0.mk (hbox); have GW357 := gw_ hg; have GE357 := gw_ hg; have NB350_357 := nl_ hg BK350; have NB357_350 := ng_ hg BK350; replace HO355 := Aside0.mk (Kd.V_below (Kd.V_elderB (by (with_reducible repeat (first | apply Kd.V_alloc | apply Kd.V_drewN | apply Kd.V_drew)); exact HO355.out) gb357 (Nat.le_of_eq hg.symm)) hb); replace BK350 := bkb_ BK350 hb; replace HB := bs_ hb; clear hb hbox hg; have hnb14 := NB357_350.out; have hnc14 := NB350_357.out; obtain ⟨hcz15_0, hcz15_1, hcz15_2, hfz15_0, hfz15_1, hfz15_2⟩ := b3_ BK357; obtain ⟨Ao16, co16, eo16⟩ := Kd.V_slice HO355.out; subst eo16; obtain ⟨hcz17_0, hcz17_1, hcz17_2, hfz17_0, hfz17_1, hfz17_2⟩ := b3_ BK350) | (go_at_call 47; (with_reducible refine (impl_BagOk.calls k a0_1 _ _ l0_2 true _ ?side1 ?side2 A5.out).mono ?_); (case side1 => exact Kd.C_below HR0_2.out bb_); (case side2 => exact HC0_2.out); rintro e w18 ⟨rfl, hb⟩; have n0_ := Aside0.mk (Kd.V_below (by (with_reducible repeat (first | apply Kd.V_alloc | apply Kd.V_drewN | apply Kd.V_drew)); exact (Kd.V_mono (Kd.V_far (p := ⟨gb357, 2, none⟩) (Kd.V_far (p := ⟨gb357, 1, none⟩) (Kd.V_far (p := ⟨gb357, 0, none⟩) (Kd.V_mono HO355.out (fun k_ hk => (⟨hk, hk.2⟩ : _ ∧ k_ ≠ gb357))) (fun _ hk => hk.2) (.string t351)) (fun _ hk => hk.2) (.int .i64 t352)) (fun _ hk => hk.2) (.slice Ao16 t353.length co16)) (fun _ h_ => h_.1))) hb); have n1_ := Aside0.mk (blk_below (g := gb350) (o := .cells #[.string a0_0, .int .i64 a0_1, .slice A0_2 l0_2.length c0_2] 91 (0, 0)) (bf3_ NB350_357 (bkx_ BK350.out)) hb); have n2_ := Aside0.mk (blk_below (g := gb357) (o := .cells #[.string t351, .int .i64 t352, .slice Ao16 t353.length co16] 91 (0, 0)) (bp3_ (bkx_ BK357.out)) hb); have n3_ := bs_ hb; clear HO355; clear BK350; clear BK357; clear HB; have HO355 := n0_; have BK350 := n1_; have BK357 := n2_; have HB := n3_; clear n0_ n1_ n2_ n3_; (try clear hb); (try clear hb2); (try clear hk); (try clear hi); obtain ⟨hcz19_0, hcz19_1, hcz19_2, hfz19_0, hfz19_1, hfz19_2⟩ := b3_ BK350; obtain ⟨hcz20_0, hcz20_1, hcz20_2, hfz20_0, hfz20_1, hfz20_2⟩ := b3_ BK357) | (go_at_call 67; (with_reducible refine (impl_sum.calls k t352 (fun k_ => (k_ ≠ gb350 ∧ k_ ≠ gb357)) _ _ t353 a0_1 (fun k_ => k_ < w.heap.size) _ _ l0_2 t359 t360 _ ?side1 ?side2 A8.out).mono ?_); (case side1 => exact HO355.out); (case side2 => exact Kd.V_mk HC0_2.out (Kd.F_below (Kd.C_F k74_heap HR0_2.out) bb_)); rintro e w21 ⟨v361, rfl, ho0, hb⟩; have n0_ := Aside0.mk (Kd.V_elder' (by (with_reducible repeat (first | apply Kd.V_alloc | apply Kd.V_drewN | apply Kd.V_drew)); exact HO355.out) (Kd.N_base ho0) hb); have n1_ := Aside0.mk (Kd.N_lower (Kd.N_mono (ok' := fun k_ => k_ ≠ gb350 ∧ k_ ≠ gb357) ho0 (fun k_ hk_ => ⟨Or.elim hk_ (fun hs_ => Or.elim hs_ (fun hs_ => hs_.1) (fun hs_ => fun e_ => Nat.not_le.2 hs_ (by rw [e_]; exact GW350.out))) (fun hn_ => (Kd.freshB (g := gb350) (o := .cells #[.string a0_0, .int .i64 a0_1, .slice A0_2 l0_2.length c0_2] 91 (0, 0)) (bkx_ BK350.out) k_ hn_)), Or.elim hk_ (fun hs_ => Or.elim hs_ (fun hs_ => hs_.2) (fun hs_ => fun e_ => Nat.not_le.2 hs_ (by rw [e_]; exact GW357.out))) (fun hn_ => (Kd.freshB (g := gb357) (o := .cells #[.string t351, .int .i64 t352, .slice Ao16 t353.length co16] 91 (0, 0)) (bkx_ BK357.out) k_ hn_))⟩)) (below_size bb_)); have n2_ := bkb_ BK350 hb; have n3_ := bkb_ BK357 hb; have n4_ := bs_ hb; clear HO355; clear BK350; clear BK357; clear HB; have HO355 := n0_; have HO362 := n1_; have BK350 := n2_; have BK357 := n3_; have HB := n4_; clear n0_ n1_ n2_ n3_ n4_; (try clear hb); (try clear hb2); (try clear hk); (try clear hi); (try clear ho0); obtain ⟨Ao22, co22, eo22⟩ := Kd.N_slice HO362.out; subst eo22) | (go_at_call 66; (with_reducible refine (impl_Plain.calls k t359 _ _ t360 t363 _ ?side1 ?side2 A9.out).mono ?_); (case side1 => exact ck_ (Kd.N_reads' HO362.out).2.2); (case side2 => exact (Kd.N_reads' HO362.out).2.1); rintro e w23 ⟨rfl, hb⟩; have n0_ := Aside0.mk (Kd.V_below (by (with_reducible repeat (first | apply Kd.V_alloc | apply Kd.V_drewN | apply Kd.V_drew)); exact HO355.out) hb); have n1_ := Aside0.mk (Kd.N_below (by (with_reducible repeat (first | apply Kd.N_alloc | apply Kd.N_drewN | apply Kd.N_drew)); exact HO362.out) hb); have n2_ := bkb_ BK350 hb; have n3_ := bkb_ BK357 hb; have n4_ := bs_ hb; clear HO355; clear HO362; clear BK350; clear BK357; clear HB; have HO355 := n0_; have HO362 := n1_; have BK350 := n2_; have BK357 := n3_; have HB := n4_; clear n0_ n1_ n2_ n3_ n4_; (try clear hb); (try clear hb2); (try clear hk); (try clear hi)))
    go_ret
    exact ⟨er_, bb_⟩
   ·rw [if_neg c7] at H
    have c7b0 : (a0_1 == t352) = false := beq_eq_false_iff_ne.mpr c7
    have c7b1 : (a0_1 != t352) = true := bne_iff_ne.mpr c7
    obtain rfl := Option.some.inj H
    go_enter Try.func64, Try.ntmps64
    go_wp2_with (first | ((with_reducible refine gate_dst (N := 2) rfl ?_); refine bx_ 2 #[.string a0_0, .int .i64 a0_1, .slice A0_2 l0_2.length c0_2] 91 ?_; intro gb350 hg w24 hbox hb; have BK350 := Aside0.mk (hbox); have GW350 := gw_ hg; have GE350 := gw_ hg; replace HB := bs_ hb; clear hb hbox hg; obtain ⟨hcz25_0, hcz25_1, hcz25_2, hfz25_0, hfz25_1, hfz25_2⟩ := b3_ BK350; have hcB_ := (HB.out.cell (p := ⟨B, 0, none⟩) HBl.out).trans HcB.out) | ((with_reducible refine gate_callee (f := 65) rfl ?_); refine gsL_ (some 10) Try.func65 #[.slice A1 l1.length c1, .string a0_0] ?_; (with_reducible refine (impl_findRel.calls (fun k_ => k_ < w.heap.size) _ _ l1 a0_0 t351 t352 t353 true _ ?side1 A3.out).mono ?_); (case side1 => exact Kd.V_mk HC1.out (Kd.F_below (Kd.C_F k91_heap HR1.out) bb_)); rintro e w26 ⟨v354, rfl, ho0, hb⟩; refine ⟨_, rfl, ?_⟩; have HO355 := Aside0.mk (Kd.V_lower (Kd.V_mono (ok' := fun k_ => k_ ≠ gb350) ho0 (fun k_ hk_ => Or.elim hk_ (fun hs_ => fun e_ => Nat.not_le.2 hs_ (by rw [e_]; exact GW350.out)) (fun hn_ => (Kd.freshB (g := gb350) (o := .cells #[.string a0_0, .int .i64 a0_1, .slice A0_2 l0_2.length c0_2] 91 (0, 0)) (bkx_ BK350.out) k_ hn_)))) (below_size bb_)); replace BK350 := bkb_ BK350 hb; replace HB := bs_ hb; (try clear hb); (try clear hb2); (try clear hk); (try clear hi); (try clear ho0)) | ((with_reducible refine gate_dst (N := 4) rfl ?_); refine bx_ 4 #[.string (⟨#[]⟩ : ByteArray), .int .i64 0, .slice none 0 0] 91 ?_; intro gb357 hg w27 hbox hb; have BK357 := Aside0.mk (hbox); have GW357 := gw_ hg; have GE357 := gw_ hg; have NB350_357 := nl_ hg BK350; have NB357_350 := ng_ hg BK350; replace HO355 := Aside0.mk (Kd.V_below (Kd.V_elderB (by (with_reducible repeat (first | apply Kd.V_alloc | apply Kd.V_drewN | apply Kd.V_drew)); exact HO355.out) gb357 (Nat.le_of_eq hg.symm)) hb); replace BK350 := bkb_ BK350 hb; replace HB := bs_ hb; clear hb hbox hg; have hnb28 := NB357_350.out; have hnc28 := NB350_357.out; obtain ⟨hcz29_0, hcz29_1, hcz29_2, hfz29_0, hfz29_1, hfz29_2⟩ := b3_ BK357; obtain ⟨Ao30, co30, eo30⟩ := Kd.V_slice HO355.out; subst eo30; obtain ⟨hcz31_0, hcz31_1, hcz31_2, hfz31_0, hfz31_1, hfz31_2⟩ := b3_ BK350) | (go_at_call 47; (with_reducible refine (impl_BagOk.calls k a0_1 _ _ l0_2 true _ ?side1 ?side2 A5.out).mono ?_); (case side1 => exact Kd.C_below HR0_2.out bb_); (case side2 => exact HC0_2.out); rintro e w32 ⟨rfl, hb⟩; have n0_ := Aside0.mk (Kd.V_below (by (with_reducible repeat (first | apply Kd.V_alloc | apply Kd.V_drewN | apply Kd.V_drew)); exact (Kd.V_mono (Kd.V_far (p := ⟨gb357, 2, none⟩) (Kd.V_far (p := ⟨gb357, 1, none⟩) (Kd.V_far (p := ⟨gb357, 0, none⟩) (Kd.V_mono HO355.out (fun k_ hk => (⟨hk, hk.2⟩ : _ ∧ k_ ≠ gb357))) (fun _ hk => hk.2) (.string t351)) (fun _ hk => hk.2) (.int .i64 t352)) (fun _ hk => hk.2) (.slice Ao30 t353.length co30)) (fun _ h_ => h_.1))) hb); have n1_ := Aside0.mk (blk_below (g := gb350) (o := .cells #[.string a0_0, .int .i64 a0_1, .slice A0_2 l0_2.length c0_2] 91 (0, 0)) (bf3_ NB350_357 (bkx_ BK350.out)) hb); have n2_ := Aside0.mk (blk_below (g := gb357) (o := .cells #[.string t351, .int .i64 t352, .slice Ao30 t353.length co30] 91 (0, 0)) (bp3_ (bkx_ BK357.out)) hb); have n3_ := bs_ hb; clear HO355; clear BK350; clear BK357; clear HB; have HO355 := n0_; have BK350 := n1_; have BK357 := n2_; have HB := n3_; clear n0_ n1_ n2_ n3_; (try clear hb); (try clear hb2); (try clear hk); (try clear hi); obtain ⟨hcz33_0, hcz33_1, hcz33_2, hfz33_0, hfz33_1, hfz33_2⟩ := b3_ BK350; obtain ⟨hcz34_0, hcz34_1, hcz34_2, hfz34_0, hfz34_1, hfz34_2⟩ := b3_ BK357))
    go_ret
    exact ⟨er_, bb_⟩
  ·replace c6 := Bool.eq_false_iff.mpr c6
   subst c6
   have H1 : (some false) = some r := by rw [if_neg (show ¬ (false = true) by decide)] at H; exact H
   clear H
   have H := H1
   clear H1
   obtain rfl := Option.some.inj H
   go_enter Try.func64, Try.ntmps64
   go_wp2_with (first | ((with_reducible refine gate_dst (N := 2) rfl ?_); refine bx_ 2 #[.string a0_0, .int .i64 a0_1, .slice A0_2 l0_2.length c0_2] 91 ?_; intro gb350 hg w35 hbox hb; have BK350 := Aside0.mk (hbox); have GW350 := gw_ hg; have GE350 := gw_ hg; replace HB := bs_ hb; clear hb hbox hg; obtain ⟨hcz36_0, hcz36_1, hcz36_2, hfz36_0, hfz36_1, hfz36_2⟩ := b3_ BK350; have hcB_ := (HB.out.cell (p := ⟨B, 0, none⟩) HBl.out).trans HcB.out) | ((with_reducible refine gate_callee (f := 65) rfl ?_); refine gsL_ (some 10) Try.func65 #[.slice A1 l1.length c1, .string a0_0] ?_; (with_reducible refine (impl_findRel.calls (fun k_ => k_ < w.heap.size) _ _ l1 a0_0 t351 t352 t353 true _ ?side1 A3.out).mono ?_); (case side1 => exact Kd.V_mk HC1.out (Kd.F_below (Kd.C_F k91_heap HR1.out) bb_)); rintro e w37 ⟨v354, rfl, ho0, hb⟩; refine ⟨_, rfl, ?_⟩; have HO355 := Aside0.mk (Kd.V_lower (Kd.V_mono (ok' := fun k_ => k_ ≠ gb350) ho0 (fun k_ hk_ => Or.elim hk_ (fun hs_ => fun e_ => Nat.not_le.2 hs_ (by rw [e_]; exact GW350.out)) (fun hn_ => (Kd.freshB (g := gb350) (o := .cells #[.string a0_0, .int .i64 a0_1, .slice A0_2 l0_2.length c0_2] 91 (0, 0)) (bkx_ BK350.out) k_ hn_)))) (below_size bb_)); replace BK350 := bkb_ BK350 hb; replace HB := bs_ hb; (try clear hb); (try clear hb2); (try clear hk); (try clear hi); (try clear ho0)) | ((with_reducible refine gate_dst (N := 4) rfl ?_); refine bx_ 4 #[.string (⟨#[]⟩ : ByteArray), .int .i64 0, .slice none 0 0] 91 ?_; intro gb357 hg w38 hbox hb; have BK357 := Aside0.mk (hbox); have GW357 := gw_ hg; have GE357 := gw_ hg; have NB350_357 := nl_ hg BK350; have NB357_350 := ng_ hg BK350; replace HO355 := Aside0.mk (Kd.V_below (Kd.V_elderB (by (with_reducible repeat (first | apply Kd.V_alloc | apply Kd.V_drewN | apply Kd.V_drew)); exact HO355.out) gb357 (Nat.le_of_eq hg.symm)) hb); replace BK350 := bkb_ BK350 hb; replace HB := bs_ hb; clear hb hbox hg; have hnb39 := NB357_350.out; have hnc39 := NB350_357.out; obtain ⟨hcz40_0, hcz40_1, hcz40_2, hfz40_0, hfz40_1, hfz40_2⟩ := b3_ BK357; obtain ⟨Ao41, co41, eo41⟩ := Kd.V_slice HO355.out; subst eo41; obtain ⟨hcz42_0, hcz42_1, hcz42_2, hfz42_0, hfz42_1, hfz42_2⟩ := b3_ BK350) | (go_at_call 47; (with_reducible refine (impl_BagOk.calls k a0_1 _ _ l0_2 false _ ?side1 ?side2 A5.out).mono ?_); (case side1 => exact Kd.C_below HR0_2.out bb_); (case side2 => exact HC0_2.out); rintro e w43 ⟨rfl, hb⟩; have n0_ := Aside0.mk (Kd.V_below (by (with_reducible repeat (first | apply Kd.V_alloc | apply Kd.V_drewN | apply Kd.V_drew)); exact (Kd.V_mono (Kd.V_far (p := ⟨gb357, 2, none⟩) (Kd.V_far (p := ⟨gb357, 1, none⟩) (Kd.V_far (p := ⟨gb357, 0, none⟩) (Kd.V_mono HO355.out (fun k_ hk => (⟨hk, hk.2⟩ : _ ∧ k_ ≠ gb357))) (fun _ hk => hk.2) (.string t351)) (fun _ hk => hk.2) (.int .i64 t352)) (fun _ hk => hk.2) (.slice Ao41 t353.length co41)) (fun _ h_ => h_.1))) hb); have n1_ := Aside0.mk (blk_below (g := gb350) (o := .cells #[.string a0_0, .int .i64 a0_1, .slice A0_2 l0_2.length c0_2] 91 (0, 0)) (bf3_ NB350_357 (bkx_ BK350.out)) hb); have n2_ := Aside0.mk (blk_below (g := gb357) (o := .cells #[.string t351, .int .i64 t352, .slice Ao41 t353.length co41] 91 (0, 0)) (bp3_ (bkx_ BK357.out)) hb); have n3_ := bs_ hb; clear HO355; clear BK350; clear BK357; clear HB; have HO355 := n0_; have BK350 := n1_; have BK357 := n2_; have HB := n3_; clear n0_ n1_ n2_ n3_; (try clear hb); (try clear hb2); (try clear hk); (try clear hi)))
   go_ret
   exact ⟨er_, bb_⟩
 ·replace c4 := Bool.eq_false_iff.mpr c4
  subst c4
  have H1 : (some false) = some r := by rw [if_neg (show ¬ (false = true) by decide)] at H; exact H
  clear H
  have H := H1
  clear H1
  obtain rfl := Option.some.inj H
  go_enter Try.func64, Try.ntmps64
  go_wp2_with (first | ((with_reducible refine gate_dst (N := 2) rfl ?_); refine bx_ 2 #[.string a0_0, .int .i64 a0_1, .slice A0_2 l0_2.length c0_2] 91 ?_; intro gb350 hg w44 hbox hb; have BK350 := Aside0.mk (hbox); have GW350 := gw_ hg; have GE350 := gw_ hg; replace HB := bs_ hb; clear hb hbox hg; obtain ⟨hcz45_0, hcz45_1, hcz45_2, hfz45_0, hfz45_1, hfz45_2⟩ := b3_ BK350; have hcB_ := (HB.out.cell (p := ⟨B, 0, none⟩) HBl.out).trans HcB.out) | ((with_reducible refine gate_callee (f := 65) rfl ?_); refine gsL_ (some 10) Try.func65 #[.slice A1 l1.length c1, .string a0_0] ?_; (with_reducible refine (impl_findRel.calls (fun k_ => k_ < w.heap.size) _ _ l1 a0_0 t351 t352 t353 false _ ?side1 A3.out).mono ?_); (case side1 => exact Kd.V_mk HC1.out (Kd.F_below (Kd.C_F k91_heap HR1.out) bb_)); rintro e w46 ⟨v354, rfl, ho0, hb⟩; refine ⟨_, rfl, ?_⟩; have HO355 := Aside0.mk (Kd.V_lower (Kd.V_mono (ok' := fun k_ => k_ ≠ gb350) ho0 (fun k_ hk_ => Or.elim hk_ (fun hs_ => fun e_ => Nat.not_le.2 hs_ (by rw [e_]; exact GW350.out)) (fun hn_ => (Kd.freshB (g := gb350) (o := .cells #[.string a0_0, .int .i64 a0_1, .slice A0_2 l0_2.length c0_2] 91 (0, 0)) (bkx_ BK350.out) k_ hn_)))) (below_size bb_)); replace BK350 := bkb_ BK350 hb; replace HB := bs_ hb; (try clear hb); (try clear hb2); (try clear hk); (try clear hi); (try clear ho0)) | ((with_reducible refine gate_dst (N := 4) rfl ?_); refine bx_ 4 #[.string (⟨#[]⟩ : ByteArray), .int .i64 0, .slice none 0 0] 91 ?_; intro gb357 hg w47 hbox hb; have BK357 := Aside0.mk (hbox); have GW357 := gw_ hg; have GE357 := gw_ hg; have NB350_357 := nl_ hg BK350; have NB357_350 := ng_ hg BK350; replace HO355 := Aside0.mk (Kd.V_below (Kd.V_elderB (by (with_reducible repeat (first | apply Kd.V_alloc | apply Kd.V_drewN | apply Kd.V_drew)); exact HO355.out) gb357 (Nat.le_of_eq hg.symm)) hb); replace BK350 := bkb_ BK350 hb; replace HB := bs_ hb; clear hb hbox hg; have hnb48 := NB357_350.out; have hnc48 := NB350_357.out; obtain ⟨hcz49_0, hcz49_1, hcz49_2, hfz49_0, hfz49_1, hfz49_2⟩ := b3_ BK357; obtain ⟨Ao50, co50, eo50⟩ := Kd.V_slice HO355.out; subst eo50))
  go_ret
  exact ⟨er_, bb_⟩

/-! ### impl_ChangeOk: function 27 -/
-- by hand
def impl_ChangeOk.f (k : Nat) (l0 l1 : List (S91)) : Option Bool :=
  (impl_DbOk.f k l0).bind fun t => if t = true then ((impl_relNames.f k l1).bind fun ns => (impl_isRising.f k ns).bind fun t2 => if t2 = true then allO (fun x => impl_ChangeOk_1.f k x.f0 x.f1.f0 x.f1.f1 l0) l1 else some false) else some false
theorem ChangeOk_cb (k : Nat) (A1 : Option Addr) (c1 : Nat) (l0 : List (S91)) (B : Nat) (xs : List S91) (w : World) (hB : B < w.heap.size) (hr1 : Kd.C k91 w A1 l0.length l0) (hc1 : l0.length ≤ c1) (hc : w.cell? ⟨B, 0, none⟩ = some (.slice A1 l0.length c1)) :
    CB Try.prog k91 (fun cs => Value.agg cs.toArray) 64 #[.pointer (some ⟨B, 0, none⟩)] (fun x => impl_ChangeOk_1.f k x.f0 x.f1.f0 x.f1.f1 l0) xs w := by
  intro W x cs b hb _ hK hf
  obtain ⟨A2, c2, rfl, hl2, hg2⟩ := k91_open hK
  have hc' : W.cell? ⟨B, 0, none⟩ = some (.slice A1 l0.length c1) := (hb.cell (p := ⟨B, 0, none⟩) hB).trans hc
  have hBW : B < W.heap.size := Nat.lt_of_lt_of_le hB hb.size
  refine Calls.mono (show Calls Try.prog 64 #[.agg #[.string x.f0, .int .i64 x.f1.f0, .slice A2 x.f1.f1.length c2], .pointer (some ⟨B, 0, none⟩)] W _ from impl_ChangeOk_1.calls k B x.f0 x.f1.f0 A2 c2 x.f1.f1 A1 c1 l0 b W hBW hc' hg2 hl2 (Kd.C_below hr1 hb) hc1 hf) ?_
  rintro e w' ⟨rfl, hb⟩
  exact ⟨rfl, hb⟩
set_option maxHeartbeats 4000000 in
theorem impl_ChangeOk.calls (k : Nat) (A0 : Option Addr) (c0 : Nat) (l0 : List (S91)) (A1 : Option Addr) (c1 : Nat) (l1 : List (S91)) (r : Bool) (w : World) (hr0 : Kd.C k91 w A0 l0.length l0) (hc0 : l0.length ≤ c0) (hr1 : Kd.C k91 w A1 l1.length l1) (hc1 : l1.length ≤ c1) (h : impl_ChangeOk.f k l0 l1 = some r) :
    Calls Try.prog 27 #[.slice A0 l0.length c0, .slice A1 l1.length c1] w fun e w' => e = .returned (.bool r) ∧ Below w.heap.size w w' := by
  unfold impl_ChangeOk.f at h
  obtain ⟨t, ht, h⟩ := Option.bind_eq_some_iff.1 h
  have hB1 : Below w.heap.size w (w.alloc (.cells #[.slice A0 l0.length c0] 52)) := below_alloc (Below.refl _ _) _
  have hcell : (w.alloc (.cells #[.slice A0 l0.length c0] 52)).cell? ⟨w.heap.size, 0, none⟩ = some (.slice A0 l0.length c0) := (cell_of_block (heap_alloc_new w _) 0).trans rfl
  have hdb := fun W1 (hb : Below w.heap.size w W1) => impl_DbOk.calls k A0 c0 l0 t W1 (Kd.C_below hr0 hb) hc0 ht
  have HB1 := Aside0.mk hB1
  cases t with
  | false =>
    rw [if_neg (by decide)] at h
    obtain rfl := Option.some.inj h
    clear h hr0 hr1 ht
    go_enter Try.func27, Try.ntmps27
    go_wp2_with (
      go_at_call 60
      refine (hdb _ HB1.out).mono ?_
      rintro e w1 ⟨rfl, hb⟩
      have HB2 := Aside0.mk (HB1.out.trans (hb.mono HB1.out.size))
      clear hb)
    go_ret
    exact ⟨rfl, HB2.out⟩
  | true =>
    rw [if_pos rfl] at h
    obtain ⟨ns, hns, h⟩ := Option.bind_eq_some_iff.1 h
    obtain ⟨t2, ht2, h⟩ := Option.bind_eq_some_iff.1 h
    have hnames := fun W1 (hb : Below w.heap.size w W1) => impl_relNames.calls k A1 c1 l1 ns W1 (Kd.C_below hr1 hb) hc1 hns
    have hrise := fun W A c hr hc => impl_isRising.calls k A c ns t2 W hr hc ht2
    have eg : ∀ args w, (callFunc 64 args).run Try.prog w = .ok (.enter 64 args) w := enters_of Try.func64 (by kernel_rfl) rfl
    have hall : t2 = true → ∀ W, Below w.heap.size w W → w.heap.size < W.heap.size → W.cell? ⟨w.heap.size, 0, none⟩ = some (.slice A0 l0.length c0) → Calls Try.prog 63 #[.slice A1 l1.length c1, .func (.func 64) #[] #[.pointer (some ⟨w.heap.size, 0, none⟩)]] W fun e w' => e = .returned (.bool r) ∧ Below W.heap.size W w' := fun e W hb hs hc => areAll_T91.calls _ 64 #[.pointer (some ⟨w.heap.size, 0, none⟩)] eg A1 c1 l1 r W (Kd.C_below hr1 hb) (ChangeOk_cb k A0 c0 l0 w.heap.size l1 W hs (Kd.C_below hr0 hb) hc0 hc) (by rw [if_pos e] at h; exact h)
    have hfalse := Aside0.mk (show t2 = false → r = false from fun e => by rw [if_neg (by simp [e])] at h; exact (Option.some.inj h).symm)
    have hcell2 := Aside0.mk hcell
    clear h hr0 hr1 ht hns ht2
    go_enter Try.func27, Try.ntmps27
    cases t2 with
    | false =>
      obtain rfl := hfalse.out rfl
      go_wp2_with (first
        | (go_at_call 60
           refine (hdb _ HB1.out).mono ?_
           rintro e w1 ⟨rfl, hb⟩
           have HB2 := Aside0.mk (HB1.out.trans (hb.mono HB1.out.size))
           clear hb)
        | (go_at_call 62
           refine (hnames _ HB2.out).mono ?_
           rintro e w2 ⟨v0, rfl, hR, hb⟩
           obtain ⟨A, c, rfl, hAc, hC⟩ := Kd.R_reads hR
           have HB3 := Aside0.mk (HB2.out.trans (hb.mono HB2.out.size))
           have HC := Aside0.mk hC
           clear hR hb hC)
        | (go_at_call 61
           refine (hrise _ _ _ HC.out hAc).mono ?_
           rintro e w3 ⟨rfl, hb3⟩
           have HB4 := Aside0.mk (HB3.out.trans (hb3.mono HB3.out.size))
           clear hb3))
      go_ret
      exact ⟨rfl, HB4.out⟩
    | true =>
      have hall2 := hall rfl
      clear hall
      go_wp2_with (first
        | (go_at_call 60
           refine (hdb _ HB1.out).mono ?_
           rintro e w1 ⟨rfl, hb⟩
           have HB2 := Aside0.mk (HB1.out.trans (hb.mono HB1.out.size))
           have HX2 := Aside0.mk ((hb.cell (p := ⟨w.heap.size, 0, none⟩) (by simp)).trans hcell2.out)
           have HS2 := Aside0.mk (show w.heap.size < w1.heap.size from Nat.lt_of_lt_of_le (by simp) hb.size)
           clear hb)
        | (go_at_call 62
           refine (hnames _ HB2.out).mono ?_
           rintro e w2 ⟨v0, rfl, hR, hb⟩
           obtain ⟨A, c, rfl, hAc, hC⟩ := Kd.R_reads hR
           have HB3 := Aside0.mk (HB2.out.trans (hb.mono HB2.out.size))
           have HX3 := Aside0.mk ((hb.cell (p := ⟨w.heap.size, 0, none⟩) HS2.out).trans HX2.out)
           have HS3 := Aside0.mk (Nat.lt_of_lt_of_le HS2.out hb.size)
           have HC := Aside0.mk hC
           clear hR hb hC)
        | (go_at_call 61
           refine (hrise _ _ _ HC.out hAc).mono ?_
           rintro e w3 ⟨rfl, hb3⟩
           have HB4 := Aside0.mk (HB3.out.trans (hb3.mono HB3.out.size))
           have HX4 := Aside0.mk ((hb3.cell (p := ⟨w.heap.size, 0, none⟩) HS3.out).trans HX3.out)
           have HS4 := Aside0.mk (Nat.lt_of_lt_of_le HS3.out hb3.size)
           clear hb3)
        | (go_at_call 63
           refine (hall2 _ HB4.out HS4.out HX4.out).mono ?_
           rintro e w4 ⟨rfl, hb4⟩))
      go_ret
      exact ⟨rfl, HB4.out.trans (hb4.mono HB4.out.size)⟩

/-! ### laws_eqValue: function 39 -/
def laws_eqValue.f (a0_0 : Int) (a0_1 : Int) (a0_2 : ByteArray) (a1_0 : Int) (a1_1 : Int) (a1_2 : ByteArray) : Option (Bool) := if a0_0 = a1_0 then (if a0_1 = a1_1 then (if a0_2.toList = a1_2.toList then (some true) else (some false)) else (some false)) else (some false)
set_option maxHeartbeats 8000000 in
theorem laws_eqValue.calls (a0_0 : Int) (a0_1 : Int) (a0_2 : ByteArray) (a1_0 : Int) (a1_1 : Int) (a1_2 : ByteArray) (r : Bool) (w : World) (h : laws_eqValue.f a0_0 a0_1 a0_2 a1_0 a1_1 a1_2 = some r) :
  Calls Try.prog 39 #[.agg #[.int .i64 a0_0, .int .i64 a0_1, .string a0_2], .agg #[.int .i64 a1_0, .int .i64 a1_1, .string a1_2]] w fun e w' => e = .returned (.bool r) ∧ Below w.heap.size w w' := by
 have hu25 := Try.underlying25
 have HB := Aside0.mk (Below.refl w.heap.size w)
 have H : (if a0_0 = a1_0 then (if a0_1 = a1_1 then (if a0_2.toList = a1_2.toList then (some true) else (some false)) else (some false)) else (some false)) = some r := h
 clear h
 by_cases c3 : a0_0 = a1_0
 ·rw [if_pos c3] at H
  have c3b0 : (a0_0 == a1_0) = true := beq_iff_eq.mpr c3
  have c3b1 : (a0_0 != a1_0) = false := bne_eq_false_iff_eq.mpr c3
  clear c3
  by_cases c4 : a0_1 = a1_1
  ·rw [if_pos c4] at H
   have c4b0 : (a0_1 == a1_1) = true := beq_iff_eq.mpr c4
   have c4b1 : (a0_1 != a1_1) = false := bne_eq_false_iff_eq.mpr c4
   clear c4
   by_cases c5 : a0_2.toList = a1_2.toList
   ·rw [if_pos c5] at H
    have c5b0 : (a0_2.toList == a1_2.toList) = true := beq_iff_eq.mpr c5
    have c5b1 : (a0_2.toList != a1_2.toList) = false := bne_eq_false_iff_eq.mpr c5
    clear c5
    obtain rfl := Option.some.inj H
    go_enter Try.func39, Try.ntmps39
    go_wp2_with (first | ((with_reducible refine gate_dst (N := 2) rfl ?_); refine bx_ 2 #[.int .i64 a0_0, .int .i64 a0_1, .string a0_2] 25 ?_; intro gb364 hg w6 hbox hb; have BK364 := Aside0.mk (hbox); have GW364 := gw_ hg; have GE364 := gw_ hg; replace HB := bs_ hb; clear hb hbox hg) | ((with_reducible refine gate_dst (N := 3) rfl ?_); refine bx_ 3 #[.int .i64 a1_0, .int .i64 a1_1, .string a1_2] 25 ?_; intro gb365 hg w7 hbox hb; have BK365 := Aside0.mk (hbox); have GW365 := gw_ hg; have GE365 := gw_ hg; have NB364_365 := nl_ hg BK364; have NB365_364 := ng_ hg BK364; replace BK364 := bkb_ BK364 hb; replace HB := bs_ hb; clear hb hbox hg; have hnb8 := NB364_365.out; have hnc8 := NB365_364.out; obtain ⟨hcz9_0, hcz9_1, hcz9_2, hfz9_0, hfz9_1, hfz9_2⟩ := b3_ BK364; obtain ⟨hcz10_0, hcz10_1, hcz10_2, hfz10_0, hfz10_1, hfz10_2⟩ := b3_ BK365))
    go_ret
    exact ⟨er_, bb_⟩
   ·rw [if_neg c5] at H
    have c5b0 : (a0_2.toList == a1_2.toList) = false := beq_eq_false_iff_ne.mpr c5
    have c5b1 : (a0_2.toList != a1_2.toList) = true := bne_iff_ne.mpr c5
    obtain rfl := Option.some.inj H
    go_enter Try.func39, Try.ntmps39
    go_wp2_with (first | ((with_reducible refine gate_dst (N := 2) rfl ?_); refine bx_ 2 #[.int .i64 a0_0, .int .i64 a0_1, .string a0_2] 25 ?_; intro gb364 hg w11 hbox hb; have BK364 := Aside0.mk (hbox); have GW364 := gw_ hg; have GE364 := gw_ hg; replace HB := bs_ hb; clear hb hbox hg) | ((with_reducible refine gate_dst (N := 3) rfl ?_); refine bx_ 3 #[.int .i64 a1_0, .int .i64 a1_1, .string a1_2] 25 ?_; intro gb365 hg w12 hbox hb; have BK365 := Aside0.mk (hbox); have GW365 := gw_ hg; have GE365 := gw_ hg; have NB364_365 := nl_ hg BK364; have NB365_364 := ng_ hg BK364; replace BK364 := bkb_ BK364 hb; replace HB := bs_ hb; clear hb hbox hg; have hnb13 := NB364_365.out; have hnc13 := NB365_364.out; obtain ⟨hcz14_0, hcz14_1, hcz14_2, hfz14_0, hfz14_1, hfz14_2⟩ := b3_ BK364; obtain ⟨hcz15_0, hcz15_1, hcz15_2, hfz15_0, hfz15_1, hfz15_2⟩ := b3_ BK365))
    go_ret
    exact ⟨er_, bb_⟩
  ·rw [if_neg c4] at H
   have c4b0 : (a0_1 == a1_1) = false := beq_eq_false_iff_ne.mpr c4
   have c4b1 : (a0_1 != a1_1) = true := bne_iff_ne.mpr c4
   obtain rfl := Option.some.inj H
   go_enter Try.func39, Try.ntmps39
   go_wp2_with (first | ((with_reducible refine gate_dst (N := 2) rfl ?_); refine bx_ 2 #[.int .i64 a0_0, .int .i64 a0_1, .string a0_2] 25 ?_; intro gb364 hg w16 hbox hb; have BK364 := Aside0.mk (hbox); have GW364 := gw_ hg; have GE364 := gw_ hg; replace HB := bs_ hb; clear hb hbox hg) | ((with_reducible refine gate_dst (N := 3) rfl ?_); refine bx_ 3 #[.int .i64 a1_0, .int .i64 a1_1, .string a1_2] 25 ?_; intro gb365 hg w17 hbox hb; have BK365 := Aside0.mk (hbox); have GW365 := gw_ hg; have GE365 := gw_ hg; have NB364_365 := nl_ hg BK364; have NB365_364 := ng_ hg BK364; replace BK364 := bkb_ BK364 hb; replace HB := bs_ hb; clear hb hbox hg; have hnb18 := NB364_365.out; have hnc18 := NB365_364.out; obtain ⟨hcz19_0, hcz19_1, hcz19_2, hfz19_0, hfz19_1, hfz19_2⟩ := b3_ BK364; obtain ⟨hcz20_0, hcz20_1, hcz20_2, hfz20_0, hfz20_1, hfz20_2⟩ := b3_ BK365))
   go_ret
   exact ⟨er_, bb_⟩
 ·rw [if_neg c3] at H
  have c3b0 : (a0_0 == a1_0) = false := beq_eq_false_iff_ne.mpr c3
  have c3b1 : (a0_0 != a1_0) = true := bne_iff_ne.mpr c3
  obtain rfl := Option.some.inj H
  go_enter Try.func39, Try.ntmps39
  go_wp2_with (first | ((with_reducible refine gate_dst (N := 2) rfl ?_); refine bx_ 2 #[.int .i64 a0_0, .int .i64 a0_1, .string a0_2] 25 ?_; intro gb364 hg w21 hbox hb; have BK364 := Aside0.mk (hbox); have GW364 := gw_ hg; have GE364 := gw_ hg; replace HB := bs_ hb; clear hb hbox hg) | ((with_reducible refine gate_dst (N := 3) rfl ?_); refine bx_ 3 #[.int .i64 a1_0, .int .i64 a1_1, .string a1_2] 25 ?_; intro gb365 hg w22 hbox hb; have BK365 := Aside0.mk (hbox); have GW365 := gw_ hg; have GE365 := gw_ hg; have NB364_365 := nl_ hg BK364; have NB365_364 := ng_ hg BK364; replace BK364 := bkb_ BK364 hb; replace HB := bs_ hb; clear hb hbox hg; have hnb23 := NB364_365.out; have hnc23 := NB365_364.out; obtain ⟨hcz24_0, hcz24_1, hcz24_2, hfz24_0, hfz24_1, hfz24_2⟩ := b3_ BK364; obtain ⟨hcz25_0, hcz25_1, hcz25_2, hfz25_0, hfz25_1, hfz25_2⟩ := b3_ BK365))
  go_ret
  exact ⟨er_, bb_⟩

end Go.Proofs.Ytapgfamppnhnmaa.PFnExactChangeOk
