-- WRITTEN BY xprint.py, a program of this session over the kit's printer: by nobody's hand
-- PRESSED
import Derived.Test.YtapgfamppnhnmaaPress
import Derived.Test.YtapgfamppnhnmaaSortC
import Derived.Test.YtapgfamppnhnmaaPFnExactChangeOkx0
import Derived.Test.YtapgfamppnhnmaaPFnExactChangeOkx12
import Derived.Test.YtapgfamppnhnmaaPFnExactChangeOkx14
namespace Go.Proofs.Ytapgfamppnhnmaa.PFnExactChangeOk
open Go.RowKit Go.Proofs.YtapgfamppnhnmaaW.PrintWords Go.Proofs.YtapgfamppnhnmaaW.PrintLast Go.Proofs.YtapgfamppnhnmaaW.PrintMore
attribute [local go_sem] max2_int min2_int max_two min_two max_three min_three max_four min_four   -- for this text's walks alone
set_option linter.unusedVariables false
set_option linter.unusedSimpArgs false

/-! ### impl_gathered: function 46 -/
/-- What SortStableFunc makes of a row: each put behind all that it is not below. -/
def impl_Counted_78.f (k : Nat) (l : List S74) : Option (List S74) := if l.length < 2305843009213693952 ∧ (z74 :: l).all (fun x => (z74 :: l).all fun y => (impl_CompareRow.f k x.f0 y.f0).isSome) = true then some ((Go.Proofs.YtapgfamppnhnmaaStable.stable (Go.Proofs.YtapgfamppnhnmaaSort.ltC fun i j => (impl_CompareRow.f k (l.getD i z74).f0 (l.getD j z74).f0).getD 0) l.length (Array.range l.length)).toList.map fun i => l.getD i z74) else none
theorem impl_Counted_78.calls (k : Nat) {b_ : Nat} {ok : Nat → Prop} {A : Option Addr} {c : Nat} {l : List S74} {w : World} (hN : Kd.N k74 74 w b_ ok (.slice A l.length c) l) (r : List S74) (h : impl_Counted_78.f k l = some r) :
  Calls Try.prog 78 #[.slice A l.length c, .func (.func 79) #[] #[]] w fun e w' => e = .returned (.tuple #[]) ∧ Kd.N k74 74 w' b_ ok (.slice A l.length c) r ∧ w.grownBy w' (.slice A l.length c : Value).ownBlock := by
 unfold impl_Counted_78.f at h
 split at h
 ·rename_i hc
  obtain rfl := Option.some.inj h
  have hm : ∀ i, l.getD i z74 ∈ z74 :: l := fun i => by
   rw [List.getD_eq_getElem?_getD]
   cases hi : l[i]? with
   | none => exact List.mem_cons_self
   | some x => exact List.mem_cons_of_mem _ (List.mem_of_getElem? hi)
  refine Go.Proofs.YtapgfamppnhnmaaSort.sorted rfl hN 79 (enters_of Try.func79 (by kernel_rfl) rfl) _ ?_ hc.1
  intro W x y cx cy hx hy
  obtain ⟨Ax, ux, rfl, lx, gx⟩ := k74_openF hx
  obtain ⟨Ay, uy, rfl, ly, gy⟩ := k74_openF hy
  have hs := List.all_eq_true.1 (List.all_eq_true.1 hc.2 _ (hm x)) _ (hm y)
  obtain ⟨v, hv⟩ := Option.isSome_iff_exists.1 hs
  have hd : (impl_CompareRow.f k (l.getD x z74).f0 (l.getD y z74).f0).getD 0 = v := by rw [hv]; rfl
  simp only [hd]
  exact impl_gathered_1.calls k Ax ux (l.getD x z74).f0 (l.getD x z74).f1 Ay uy (l.getD y z74).f0 (l.getD y z74).f1 v W (Kd.F_now gx) lx (Kd.F_now gy) ly (by unfold impl_gathered_1.f; rw [hv]; rfl)
 ·cases h
mutual
def impl_gathered.l0 : Nat → List (S74) → Int → Int → List (S74) → Option (Int × (List (S74)))
 | 0, _, _, _, _ => none
 | k + 1, x5, x7, x308000, x308001 => if x7 < (x5.length : Int) then (if 0 ≤ x7 then ((impl_Value_81.f ((rd_T74 x5 x7).f0)).bind fun t309 => (impl_gathered.l1 k x5 x7 x7 x308000 x308001 t309 0)) else (none)) else (some (x308000, x308001))
def impl_gathered.l1 : Nat → List (S74) → Int → Int → Int → List (S74) → List (S25) → Int → Option (Int × (List (S74)))
 | 0, _, _, _, _, _, _, _ => none
 | k + 1, x5, x7, x9, x308000, x308001, x313000, x313001 => if x7 < (x5.length : Int) then (if 0 ≤ x7 then (if 0 ≤ x9 then (if x9 < (x5.length : Int) then ((impl_CompareRow.f k ((rd_T74 x5 x7).f0) ((rd_T74 x5 x9).f0)).bind fun t315 => (if t315 = 0 then (impl_gathered.l1 k x5 (wrap64 (x7 + 1)) x9 x308000 x308001 x313000 (wrap64 (x313001 + ((rd_T74 x5 x7).f1)))) else (if x313001 = 0 then (impl_gathered.l0 k x5 x7 x308000 x308001) else (if x308001.length < 4398046511104 then (impl_gathered.l0 k x5 x7 x308000 (x308001 ++ [(⟨x313000, x313001⟩ : S74)])) else (none))))) else (none)) else (none)) else (none)) else (if x313001 = 0 then (impl_gathered.l0 k x5 x7 x308000 x308001) else (if x308001.length < 4398046511104 then (impl_gathered.l0 k x5 x7 x308000 (x308001 ++ [(⟨x313000, x313001⟩ : S74)])) else (none)))
end
def impl_gathered.f (k : Nat) (a0 : Int) (l1 : List (S74)) : Option (Int × (List (S74))) := (impl_Counted_77.f l1).bind fun t301 => ((impl_Counted_78.f k t301).bind fun t304 => (impl_gathered.l0 k t304 0 a0 ([] : List (S74))))
def impl_gathered.T8 : Bool × List (List Nat × List Nat) := (true, [([], []), ([], []), ([1], [1]), ([0, 2], [0, 2]), ([3], [3]), ([4], [4]), ([4], [4]), ([5, 6, 4], [4, 5, 6]), ([7, 4], [4, 7]), ([8, 4], [4, 8]), ([4], [4]), ([4], [4]), ([10, 11, 4], [4, 10, 11]), ([12, 4], [4, 12]), ([13, 4], [4, 13]), ([9, 14, 4, 4], [4, 9, 14]), ([15, 4], [4, 15]), ([4, 16], [4, 16])])
def impl_gathered.B8 : List Nat := [0, 0, 2, 7, 15, 31, 31, 127, 255, 511, 31, 31, 3103, 7199, 15391, 32767, 65535, 131071]
theorem impl_gathered.tab8 : rtab .any (opsOf Try.f46 8) = impl_gathered.T8 := by kernel_rfl
theorem impl_gathered.bits8 : waitsOk impl_gathered.T8.2 impl_gathered.B8 = true := by kernel_rfl
def impl_gathered.T10 : Bool × List (List Nat × List Nat) := (true, [([], []), ([0], [0]), ([], []), ([], []), ([2, 3], [2, 3]), ([4], [4]), ([5], [5]), ([1, 6], [1, 6]), ([0, 1, 2, 3, 4, 5, 6, 7], []), ([8, 7, 0, 1, 2, 3, 4, 5, 6, 7], [7, 8])])
def impl_gathered.B10 : List Nat := [0, 1, 0, 0, 12, 28, 60, 127, 255, 511]
theorem impl_gathered.tab10 : rtab .any (opsOf Try.f46 10) = impl_gathered.T10 := by kernel_rfl
theorem impl_gathered.bits10 : waitsOk impl_gathered.T10.2 impl_gathered.B10 = true := by kernel_rfl
set_option maxHeartbeats 8000000 in
set_option maxRecDepth 100000 in
theorem impl_gathered.calls (k : Nat) (a0 : Int) (P1_ : Nat → Prop) (A1 : Option Addr) (c1 : Nat) (l1 : List (S74)) (r1 : Int) (r2 : List (S74)) (w : World) (hs1 : Kd.V k74 74 w w.heap.size (fun k_ => P1_ k_) (.slice A1 l1.length c1) l1) (h : impl_gathered.f k a0 l1 = some (r1, r2)) :
  Calls Try.prog 46 #[.int .i64 a0, .slice A1 l1.length c1] w fun e w' => ∃ v1_ : Value, e = .returned (.agg #[.int .i64 r1, v1_]) ∧ Kd.N k74 74 w' w.heap.size (fun k_ => (P1_ k_ ∨ w.heap.size ≤ k_)) v1_ r2 ∧ Below w.heap.size w w' := by
 have hu40 := Try.underlying40
 have hu74 := Try.underlying74
 have HO1 := Aside0.mk (show Kd.V k74 74 w w.heap.size (fun k_ => (P1_ k_ ∨ w.heap.size ≤ k_)) (.slice A1 l1.length c1) l1 from Kd.V_mono hs1 (fun k_ hk => .inl hk))
 have HB := Aside0.mk (Below.refl w.heap.size w)
 have H : ((impl_Counted_77.f l1).bind fun t301 => ((impl_Counted_78.f k t301).bind fun t304 => (impl_gathered.l0 k t304 0 a0 ([] : List (S74))))) = some (r1, r2) := h
 clear h
 replace H := Option.bind_eq_some_iff.mp H
 obtain ⟨t301, A30, H⟩ := H
 replace H : ((impl_Counted_78.f k t301).bind fun t304 => (impl_gathered.l0 k t304 0 a0 ([] : List (S74)))) = some (r1, r2) := H
 have A3 := Aside0.mk A30
 clear A30
 replace H := Option.bind_eq_some_iff.mp H
 obtain ⟨t304, A40, H⟩ := H
 replace H : (impl_gathered.l0 k t304 0 a0 ([] : List (S74))) = some (r1, r2) := H
 have A4 := Aside0.mk A40
 clear A40
 have H' := Aside0.mk H
 clear H
 go_enter Try.func46, Try.ntmps46
 go_wp2_with (first | ((with_reducible refine gate_dst (N := 4) rfl ?_); refine bx_ 4 #[.int .i64 0, .slice none 0 0] 40 ?_; intro gb300 hg w5 hbox hb; have BK300 := Aside0.mk (hbox); have GW300 := gw_ hg; have GE300 := gw_ hg; replace HO1 := Aside0.mk (Kd.V_below (Kd.V_elderB (by (with_reducible repeat (first | apply Kd.V_alloc | apply Kd.V_drewN | apply Kd.V_drew)); exact HO1.out) gb300 (Nat.le_of_eq hg.symm)) hb); replace HB := bs_ hb; clear hb hbox hg) | ((with_reducible refine gate_callee (f := 77) rfl ?_); refine gsL_ (some 11) Try.func77 #[.slice A1 l1.length c1] ?_; (with_reducible refine (impl_Counted_77.calls (fun k_ => ((P1_ k_ ∨ w.heap.size ≤ k_) ∧ k_ ≠ gb300)) _ _ l1 t301 _ ?side1 A3.out).mono ?_); (case side1 => exact HO1.out); rintro e w6 ⟨v302, rfl, ho0, hb⟩; refine ⟨_, rfl, ?_⟩; have HO303 := Aside0.mk (Kd.N_lower (Kd.N_mono (ok' := fun k_ => (P1_ k_ ∨ w.heap.size ≤ k_) ∧ k_ ≠ gb300) ho0 (fun k_ hk_ => ⟨Or.elim hk_ (fun hs_ => hs_.1) (fun hn_ => (.inr (Nat.le_trans (below_size bb_) hn_))), Or.elim hk_ (fun hs_ => hs_.2) (fun hn_ => (Kd.freshB (g := gb300) (o := .cells #[.int .i64 0, .slice none 0 0] 40 (0, 0)) (bkx_ BK300.out) k_ hn_))⟩)) (below_size bb_)); replace HO1 := Aside0.mk (Kd.V_elder' (by (with_reducible repeat (first | apply Kd.V_alloc | apply Kd.V_drewN | apply Kd.V_drew)); exact HO1.out) (Kd.N_base ho0) hb); replace BK300 := bkb_ BK300 hb; replace HB := bs_ hb; (try clear hb); (try clear hb2); (try clear hk); (try clear hi); (try clear ho0); obtain ⟨Ao7, co7, eo7⟩ := Kd.N_slice HO303.out; subst eo7) | ((with_reducible refine gate_callee (f := 78) rfl ?_); refine gsL_ (some 13) Try.func78 #[.slice Ao7 t301.length co7, .func (.func 79) #[] #[]] ?_; refine (impl_Counted_78.calls k (by (with_reducible repeat (first | apply Kd.N_alloc | apply Kd.N_drewN | apply Kd.N_drew)); exact HO303.out) t304 A4.out).mono ?_; rintro e w8 ⟨rfl, hN_, hgr_⟩; refine ⟨_, rfl, ?_⟩; have n0_ := Aside0.mk (Kd.N_V (base' := w.heap.size) (Kd.N_nil k74 74 w8 w.heap.size (fun k_ => (P1_ k_ ∨ w.heap.size ≤ k_) ∧ k_ ≠ gb300))); have n1_ := Aside0.mk (Kd.N_nil k74 74 w8 w.heap.size (fun k_ => (P1_ k_ ∨ w.heap.size ≤ k_) ∧ k_ ≠ gb300)); have n2_ := Aside0.mk hN_; have n3_ := Aside0.mk (blk_grown (g := gb300) (o := .cells #[.int .i64 0, .slice none 0 0] 40 (0, 0)) (bkx_ BK300.out) hgr_ (Kd.N_ne HO303.out BK300.out (by decide))); have n4_ := Aside0.mk (Below.grown bb_ hgr_ (below_size bb_) (fun k_ e_ => Kd.N_base HO303.out k_ e_)); clear HO1 HO303 BK300 HB; clear hgr_ hN_; have HO1 := n0_; have HO303 := n1_; have HO306 := n2_; have BK300 := n3_; have HB := n4_; clear n0_ n1_ n2_ n3_ n4_; generalize (.slice Ao7 t301.length co7 : Value) = v305 at *) | ((with_reducible refine gate_dst (N := 6) rfl ?_); refine bx_ 6 #[.int .i64 0, .slice none 0 0] 40 ?_; intro gb307 hg w9 hbox hb; have BK307 := Aside0.mk (hbox); have GW307 := gw_ hg; have GE307 := gw_ hg; have NB300_307 := nl_ hg BK300; have NB307_300 := ng_ hg BK300; replace HO1 := Aside0.mk (Kd.V_below (Kd.V_elderB (by (with_reducible repeat (first | apply Kd.V_alloc | apply Kd.V_drewN | apply Kd.V_drew)); exact HO1.out) gb307 (Nat.le_of_eq hg.symm)) hb); replace HO303 := Aside0.mk (Kd.N_below (Kd.N_elderB (by (with_reducible repeat (first | apply Kd.N_alloc | apply Kd.N_drewN | apply Kd.N_drew)); exact HO303.out) gb307 (Nat.le_of_eq hg.symm)) hb); replace HO306 := Aside0.mk (Kd.N_below (Kd.N_elderB (by (with_reducible repeat (first | apply Kd.N_alloc | apply Kd.N_drewN | apply Kd.N_drew)); exact HO306.out) gb307 (Nat.le_of_eq hg.symm)) hb); replace BK300 := bkb_ BK300 hb; replace HB := bs_ hb; clear hb hbox hg; have hnb10 := NB307_300.out; have hnc10 := NB300_307.out; obtain ⟨hcz11_0, hcz11_1, hfz11_0, hfz11_1⟩ := b2_ BK307))
 go_loopg [7] k (fun kq v7 w' => ∃ (x7_1 : Int) (x308001_1 : List (S74)) (u308001 : Value), v7 = .int .i64 x7_1 ∧ Aside0 (impl_gathered.l0 kq t304 x7_1 a0 x308001_1 = some (r1, r2)) ∧ Aside0 (kq ≤ k) ∧ Aside0 (Kd.N k74 74 w' w.heap.size (fun k_ => (P1_ k_ ∨ w.heap.size ≤ k_) ∧ some k_ ≠ (u308001 : Value).ownBlock ∧ k_ ≠ gb300 ∧ k_ ≠ gb307) v305 t304) ∧ Aside0 (Kd.N k74 74 w' w.heap.size (fun k_ => (P1_ k_ ∨ w.heap.size ≤ k_) ∧ some k_ ≠ (v305 : Value).ownBlock ∧ k_ ≠ gb300 ∧ k_ ≠ gb307) u308001 x308001_1) ∧ Aside0 (w'.heap[gb300]? = some (.cells #[.int .i64 0, (.slice none 0 0)] 40 (0, 0))) ∧ Aside0 (w'.heap[gb307]? = some (.cells #[.int .i64 a0, u308001] 40 (0, 0))) ∧ Aside0 (Below w.heap.size w w'))
 case atStart => exact ⟨(0), (([] : List (S74))), (.slice none 0 0), rs_, H', ⟨Nat.le_refl _⟩, ⟨by (with_reducible repeat (first | apply Kd.N_alloc | apply Kd.N_drewN | apply Kd.N_drew)); exact Kd.N_mono (Kd.N_far (p := ⟨gb307, 1, none⟩) (Kd.N_far (p := ⟨gb307, 0, none⟩) (Kd.N_mono HO306.out (fun k_ hk => (⟨hk, hk.2⟩ : _ ∧ k_ ≠ gb307))) (fun _ hk => hk.2) (.int .i64 a0)) (fun _ hk => hk.2) (.slice none 0 0)) (fun _ hk => ⟨hk.1.1.1, ⟨(by simp [Value.ownBlock]), ⟨hk.1.1.2, hk.1.2⟩⟩⟩)⟩, ⟨by first | exact Kd.S_nil _ _ _ _ _ | exact Kd.N_nil _ _ _ _ _ | exact Kd.V_nil _ _ _ _ _ | exact Kd.Q_nil _ _ _ _ _ | exact Kd.R_nil _ _ _ _ _⟩, ⟨(bf2_ NB300_307 (bkx_ BK300.out))⟩, ⟨(bp2_ (bkx_ BK307.out))⟩, ⟨bb_⟩⟩
 case round =>
  clear H'
  try clear c1
  try clear p2
  try clear c4
  try clear c7
  try clear c10
  try clear hcz11_0
  try clear hcz11_1
  try clear hfz11_0
  try clear hfz11_1
  obtain ⟨x7_1, x308001_1, u308001, rfl, HA, HK1, HO_5, HO_308001, BK300, BK307, HB⟩ := hrel
  cases gk with
  | zero => exact absurd HA.out (by simp [impl_gathered.l0])
  | succ k1 =>
   have H := HA.out
   clear HA
   simp only [impl_gathered.l0] at H
   by_cases c12 : x7_1 < (t304.length : Int)
   ·rw [if_pos c12] at H
    have c12b0 : decide (x7_1 < (t304.length : Int)) = true := decide_eq_true c12
    clear c12
    by_cases c13 : 0 ≤ x7_1
    ·rw [if_pos c13] at H
     have c13b0 : decide (0 ≤ x7_1) = true := decide_eq_true c13
     clear c13
     replace H := Option.bind_eq_some_iff.mp H
     obtain ⟨t309, A140, H⟩ := H
     replace H : (impl_gathered.l1 k1 t304 x7_1 x7_1 a0 x308001_1 t309 0) = some (r1, r2) := H
     have A14 := Aside0.mk A140
     clear A140
     have H' := Aside0.mk H
     clear H
     obtain ⟨Ao15, co15, eo15⟩ := Kd.N_slice HO_5.out
     subst eo15
     have p308 : 0 ≤ (x7_1 : Int) := od_
     have q308 : x7_1 < (t304.length : Int) := od_
     obtain ⟨ad308, A308_0, c308_0, e308, hx308_0, hx308_1, hl308_0, hi308_0⟩ := at_T74 (Kd.N_reads' HO_5.out).2.2 x7_1 p308 q308
     cases e308
     obtain ⟨ce308, hce308, hMe308, hcc308⟩ := Kd.N_get HO_5.out z74 x7_1 p308 (by first | exact q308 | exact od_ | (have e_ := (Kd.N_reads' HO_5.out).1; omega))
     obtain ⟨ua308_0, uc308_0, rfl, ul308_0, ge308_0⟩ := k74_openF hMe308
     have hv308_0 := hcc308 0 _ rfl
     rw [Nat.add_zero] at hv308_0
     replace hv308_0 := Option.some.inj (hv308_0.symm.trans hx308_0)
     injection hv308_0 with hva_ hvn_ hvc_
     rw [hva_] at ge308_0
     rw [hvc_] at ul308_0
     have HL308_0 := Aside0.mk (show Kd.V k25 25 _ w.heap.size _ _ ((rd_T74 t304 x7_1).f0) from Kd.V_mk ul308_0 ge308_0)
     clear hva_ hvn_ hvc_ ge308_0 ul308_0
     clear hcc308 hce308
     have HR308_0 := Aside0.mk hi308_0
     have HC308_0 := Aside0.mk hl308_0
     clear hi308_0 hl308_0
     replace p308 := eq_true p308
     replace q308 := eq_true q308
     go_wp2_with (first | ((with_reducible refine gate_callee (f := 81) rfl ?_); refine gsL_ (some 25) Try.func81 #[.slice A308_0 ((rd_T74 t304 x7_1).f0).length c308_0] ?_; (with_reducible refine (impl_Value_81.calls _ _ ((rd_T74 t304 x7_1).f0) t309 _ ?side1 ?side2 A14.out).mono ?_); (case side1 => exact ck_ (by repeat (first | (with_reducible exact HR308_0.out) | (with_reducible refine Kd.C_alloc ?_ _) | (with_reducible refine Kd.C_drewN ?_ _) | (with_reducible refine Kd.C_drew ?_) | exact HR308_0.out))); (case side2 => exact HC308_0.out); rintro e w16 ⟨v310, rfl, ho0, hb⟩; refine ⟨_, rfl, ?_⟩; have HO311 := Aside0.mk (Kd.R_lower (Kd.R_newM (M := fun k_ => (w.heap.size ≤ k_)) ho0 (below_size bb_) (fun k_ h_ => h_)) (below_size bb_)); replace HO_5 := Aside0.mk (Kd.N_elder' (by (with_reducible repeat (first | apply Kd.N_alloc | apply Kd.N_drewN | apply Kd.N_drew)); exact HO_5.out) (Kd.R_base ho0) hb); replace HO_308001 := Aside0.mk (Kd.N_elder' (by (with_reducible repeat (first | apply Kd.N_alloc | apply Kd.N_drewN | apply Kd.N_drew)); exact HO_308001.out) (Kd.R_base ho0) hb); replace HL308_0 := Aside0.mk (Kd.V_elder' (by (with_reducible repeat (first | apply Kd.V_alloc | apply Kd.V_drewN | apply Kd.V_drew)); exact HL308_0.out) (Kd.R_base ho0) hb); replace BK300 := bkb_ BK300 hb; replace BK307 := bkb_ BK307 hb; replace HR308_0 := Aside0.mk (Kd.C_below (by repeat (first | (with_reducible exact HR308_0.out) | (with_reducible refine Kd.C_alloc ?_ _) | (with_reducible refine Kd.C_drewN ?_ _) | (with_reducible refine Kd.C_drew ?_) | exact HR308_0.out)) hb); replace HB := bs_ hb; (try clear hb); (try clear hb2); (try clear hk); (try clear hi); (try clear ho0); obtain ⟨Ao17, co17, eo17⟩ := Kd.R_slice HO311.out; subst eo17) | ((with_reducible refine gate_dst (N := 8) rfl ?_); refine bx_ 8 #[.slice none 0 0, .int .i64 0] 74 ?_; intro gb312 hg w18 hbox hb; have BK312 := Aside0.mk (hbox); have GW312 := gw_ hg; have GE312 := gw_ hg; have NB300_312 := nl_ hg BK300; have NB312_300 := ng_ hg BK300; have NB307_312 := nl_ hg BK307; have NB312_307 := ng_ hg BK307; replace HO_5 := Aside0.mk (Kd.N_below (Kd.N_elderB (by (with_reducible repeat (first | apply Kd.N_alloc | apply Kd.N_drewN | apply Kd.N_drew)); exact HO_5.out) gb312 (Nat.le_of_eq hg.symm)) hb); replace HO_308001 := Aside0.mk (Kd.N_below (Kd.N_elderB (by (with_reducible repeat (first | apply Kd.N_alloc | apply Kd.N_drewN | apply Kd.N_drew)); exact HO_308001.out) gb312 (Nat.le_of_eq hg.symm)) hb); replace HL308_0 := Aside0.mk (Kd.V_below (Kd.V_elderB (by (with_reducible repeat (first | apply Kd.V_alloc | apply Kd.V_drewN | apply Kd.V_drew)); exact HL308_0.out) gb312 (Nat.le_of_eq hg.symm)) hb); replace HO311 := Aside0.mk (Kd.R_below (rk_ HO311.out) hb); replace BK300 := bkb_ BK300 hb; replace BK307 := bkb_ BK307 hb; replace HR308_0 := Aside0.mk (Kd.C_below (by repeat (first | (with_reducible exact HR308_0.out) | (with_reducible refine Kd.C_alloc ?_ _) | (with_reducible refine Kd.C_drewN ?_ _) | (with_reducible refine Kd.C_drew ?_) | exact HR308_0.out)) hb); replace HB := bs_ hb; clear hb hbox hg; have hnb19 := NB312_300.out; have hnc19 := NB300_312.out; have hnb20 := NB312_307.out; have hnc20 := NB307_312.out; obtain ⟨hcz21_0, hcz21_1, hfz21_0, hfz21_1⟩ := b2_ BK312))
     go_loopg [7] k1 (fun kq v7 w' => ∃ (x7_2 : Int) (x313001_2 : Int), v7 = .int .i64 x7_2 ∧ Aside0 (impl_gathered.l1 kq t304 x7_2 x7_1 a0 x308001_1 t309 x313001_2 = some (r1, r2)) ∧ Aside0 (kq ≤ k1) ∧ Aside0 (Kd.N k74 74 w' w.heap.size (fun k_ => (P1_ k_ ∨ w.heap.size ≤ k_) ∧ some k_ ≠ (u308001 : Value).ownBlock ∧ some k_ ≠ ((.slice Ao17 t309.length co17) : Value).ownBlock ∧ k_ ≠ gb300 ∧ k_ ≠ gb307 ∧ k_ ≠ gb312) (.slice (some ad308) t304.length co15) t304) ∧ Aside0 (Kd.N k74 74 w' w.heap.size (fun k_ => (P1_ k_ ∨ w.heap.size ≤ k_) ∧ some k_ ≠ ((.slice (some ad308) t304.length co15) : Value).ownBlock ∧ some k_ ≠ ((.slice Ao17 t309.length co17) : Value).ownBlock ∧ k_ ≠ gb300 ∧ k_ ≠ gb307 ∧ k_ ≠ gb312) u308001 x308001_1) ∧ Aside0 (Kd.R k25 25 w' w.heap.size (fun k_ => (w.heap.size ≤ k_)) (.slice Ao17 t309.length co17) t309) ∧ Aside0 (w'.heap[gb300]? = some (.cells #[.int .i64 0, (.slice none 0 0)] 40 (0, 0))) ∧ Aside0 (w'.heap[gb307]? = some (.cells #[.int .i64 a0, u308001] 40 (0, 0))) ∧ Aside0 (w'.heap[gb312]? = some (.cells #[(.slice Ao17 t309.length co17), .int .i64 x313001_2] 74 (0, 0))) ∧ Aside0 (Below w.heap.size w w'))
     case atStart => exact ⟨(x7_1), (0), rs_, H', ⟨Nat.le_refl _⟩, ⟨by (with_reducible repeat (first | apply Kd.N_alloc | apply Kd.N_drewN | apply Kd.N_drew)); exact Kd.N_mono (Kd.N_far (p := ⟨gb312, 1, none⟩) (Kd.N_far (p := ⟨gb312, 0, none⟩) (Kd.N_mono HO_5.out (fun k_ hk => (⟨hk, hk.2⟩ : _ ∧ k_ ≠ gb312))) (fun _ hk => hk.2) (.slice Ao17 t309.length co17)) (fun _ hk => hk.2) (.int .i64 0)) (fun _ hk => ⟨hk.1.1.1.1, ⟨hk.1.1.1.2.1, ⟨hk.1.1.2, ⟨hk.1.1.1.2.2.1, ⟨hk.1.1.1.2.2.2, hk.1.2⟩⟩⟩⟩⟩)⟩, ⟨by (with_reducible repeat (first | apply Kd.N_alloc | apply Kd.N_drewN | apply Kd.N_drew)); exact Kd.N_mono (Kd.N_far (p := ⟨gb312, 1, none⟩) (Kd.N_far (p := ⟨gb312, 0, none⟩) (Kd.N_mono HO_308001.out (fun k_ hk => (⟨hk, hk.2⟩ : _ ∧ k_ ≠ gb312))) (fun _ hk => hk.2) (.slice Ao17 t309.length co17)) (fun _ hk => hk.2) (.int .i64 0)) (fun _ hk => ⟨hk.1.1.1.1, ⟨hk.1.1.1.2.1, ⟨hk.1.1.2, ⟨hk.1.1.1.2.2.1, ⟨hk.1.1.1.2.2.2, hk.1.2⟩⟩⟩⟩⟩)⟩, ⟨by (with_reducible repeat (first | apply Kd.R_alloc | apply Kd.R_drewN | apply Kd.R_drew)); exact Kd.R_mono (Kd.R_far (p := ⟨gb312, 1, none⟩) (Kd.R_far (p := ⟨gb312, 0, none⟩) (Kd.R_types HO311.out BK312.out (by decide)) (fun _ hk => hk.2) (.slice Ao17 t309.length co17)) (fun _ hk => hk.2) (.int .i64 0)) (fun _ hk => hk.1.1)⟩, ⟨(bf2_ NB300_312 (bkx_ BK300.out))⟩, ⟨(bf2_ NB307_312 (bkx_ BK307.out))⟩, ⟨(bp2_ (bkx_ BK312.out))⟩, ⟨bb_⟩⟩
     case round =>
      clear H'
      try clear c1
      try clear c2
      try clear p2
      try clear c3
      try clear p3
      try clear q3
      try clear hx3
      try clear c4
      try clear c7
      try clear c8
      try clear c10
      try clear c12
      try clear c12b0
      try clear c13
      try clear c13b0
      try clear c19
      try clear c20
      try clear hcz11_0
      try clear hcz11_1
      try clear hcz21_0
      try clear hcz21_1
      try clear hfz11_0
      try clear hfz11_1
      try clear hfz21_0
      try clear hfz21_1
      try clear hx308_0
      try clear hx308_1
      try clear p2
      try clear p308
      try clear q308
      obtain ⟨x7_2, x313001_2, rfl, HA, HK2, HO_5, HO_308001, HO_313000, BK300, BK307, BK312, HB⟩ := hrel
      cases gk with
      | zero => exact absurd HA.out (by simp [impl_gathered.l1])
      | succ k2 =>
       have H := HA.out
       clear HA
       simp only [impl_gathered.l1] at H
       by_cases c22 : x7_2 < (t304.length : Int)
       ·rw [if_pos c22] at H
        have c22b0 : decide (x7_2 < (t304.length : Int)) = true := decide_eq_true c22
        clear c22
        by_cases c23 : 0 ≤ x7_2
        ·rw [if_pos c23] at H
         have c23b0 : decide (0 ≤ x7_2) = true := decide_eq_true c23
         clear c23
         by_cases c24 : 0 ≤ x7_1
         ·rw [if_pos c24] at H
          have c24b0 : decide (0 ≤ x7_1) = true := decide_eq_true c24
          clear c24
          by_cases c25 : x7_1 < (t304.length : Int)
          ·rw [if_pos c25] at H
           have c25b0 : decide (x7_1 < (t304.length : Int)) = true := decide_eq_true c25
           clear c25
           replace H := Option.bind_eq_some_iff.mp H
           obtain ⟨t315, A260, H⟩ := H
           replace H : (if t315 = 0 then (impl_gathered.l1 k2 t304 (wrap64 (x7_2 + 1)) x7_1 a0 x308001_1 t309 (wrap64 (x313001_2 + ((rd_T74 t304 x7_2).f1)))) else (if x313001_2 = 0 then (impl_gathered.l0 k2 t304 x7_2 a0 x308001_1) else (if x308001_1.length < 4398046511104 then (impl_gathered.l0 k2 t304 x7_2 a0 (x308001_1 ++ [(⟨t309, x313001_2⟩ : S74)])) else (none)))) = some (r1, r2) := H
           have A26 := Aside0.mk A260
           clear A260
           by_cases c27 : t315 = 0
           ·rw [if_pos c27] at H
            have c27b0 : (t315 == 0) = true := beq_iff_eq.mpr c27
            have c27b1 : (t315 != 0) = false := bne_eq_false_iff_eq.mpr c27
            clear c27
            have H' := Aside0.mk H
            clear H
            try go_wp2
            replace HO_5 := Aside0.mk (Kd.N_drew HO_5.out)
            replace HO_308001 := Aside0.mk (Kd.N_drew HO_308001.out)
            replace HO_313000 := Aside0.mk (Kd.R_drew HO_313000.out)
            replace BK300 := Aside0.mk (blk_drew BK300.out)
            replace BK307 := Aside0.mk (blk_drew BK307.out)
            replace BK312 := Aside0.mk (blk_drew BK312.out)
            replace HB := Aside0.mk (below_drew1 HB.out)
            have p313 : 0 ≤ (x7_2 : Int) := od_
            have q313 : x7_2 < (t304.length : Int) := od_
            obtain ⟨ad313, A313_0, c313_0, e313, hx313_0, hx313_1, hl313_0, hi313_0⟩ := at_T74 (Kd.N_reads' HO_5.out).2.2 x7_2 p313 q313
            obtain rfl : ad308 = ad313 := (by injection e313)
            obtain ⟨ce313, hce313, hMe313, hcc313⟩ := Kd.N_get HO_5.out z74 x7_2 p313 (by first | exact q313 | exact od_ | (have e_ := (Kd.N_reads' HO_5.out).1; omega))
            obtain ⟨ua313_0, uc313_0, rfl, ul313_0, ge313_0⟩ := k74_openF hMe313
            have hv313_0 := hcc313 0 _ rfl
            rw [Nat.add_zero] at hv313_0
            replace hv313_0 := Option.some.inj (hv313_0.symm.trans hx313_0)
            injection hv313_0 with hva_ hvn_ hvc_
            rw [hva_] at ge313_0
            rw [hvc_] at ul313_0
            have HL313_0 := Aside0.mk (show Kd.V k25 25 _ w.heap.size _ _ ((rd_T74 t304 x7_2).f0) from Kd.V_mk ul313_0 ge313_0)
            clear hva_ hvn_ hvc_ ge313_0 ul313_0
            clear hcc313 hce313
            have HR313_0 := Aside0.mk hi313_0
            have HC313_0 := Aside0.mk hl313_0
            clear hi313_0 hl313_0
            replace p313 := eq_true p313
            replace q313 := eq_true q313
            have p314 : 0 ≤ (x7_1 : Int) := od_
            have q314 : x7_1 < (t304.length : Int) := od_
            obtain ⟨ad314, A314_0, c314_0, e314, hx314_0, hx314_1, hl314_0, hi314_0⟩ := at_T74 (Kd.N_reads' HO_5.out).2.2 x7_1 p314 q314
            obtain rfl : ad308 = ad314 := (by injection e314)
            obtain ⟨ce314, hce314, hMe314, hcc314⟩ := Kd.N_get HO_5.out z74 x7_1 p314 (by first | exact q314 | exact od_ | (have e_ := (Kd.N_reads' HO_5.out).1; omega))
            obtain ⟨ua314_0, uc314_0, rfl, ul314_0, ge314_0⟩ := k74_openF hMe314
            have hv314_0 := hcc314 0 _ rfl
            rw [Nat.add_zero] at hv314_0
            replace hv314_0 := Option.some.inj (hv314_0.symm.trans hx314_0)
            injection hv314_0 with hva_ hvn_ hvc_
            rw [hva_] at ge314_0
            rw [hvc_] at ul314_0
            have HL314_0 := Aside0.mk (show Kd.V k25 25 _ w.heap.size _ _ ((rd_T74 t304 x7_1).f0) from Kd.V_mk ul314_0 ge314_0)
            clear hva_ hvn_ hvc_ ge314_0 ul314_0
            clear hcc314 hce314
            have HR314_0 := Aside0.mk hi314_0
            have HC314_0 := Aside0.mk hl314_0
            clear hi314_0 hl314_0
            replace p314 := eq_true p314
            replace q314 := eq_true q314
            refine start_ (n := 18) (S := fun w' => w'.cell? (ad308.add ((x7_2).toNat * 2)) = some (.slice A313_0 ((rd_T74 t304 x7_2).f0).length c313_0) ∧ w'.cell? ⟨(ad308.add ((x7_2).toNat * 2)).block, (ad308.add ((x7_2).toNat * 2)).off + 1, none⟩ = some (.int .i64 ((rd_T74 t304 x7_2).f1)) ∧ w'.cell? (ad308.add ((x7_1).toNat * 2)) = some (.slice A314_0 ((rd_T74 t304 x7_1).f0).length c314_0) ∧ w'.cell? ⟨(ad308.add ((x7_1).toNat * 2)).block, (ad308.add ((x7_1).toNat * 2)).off + 1, none⟩ = some (.int .i64 ((rd_T74 t304 x7_1).f1))) (ds := []) (tf 0 18) (by kernel_rfl) rfl rfl ⟨hx313_0, hx313_1, hx314_0, hx314_1⟩ (fun hHeld => ?_); refine with_tabW impl_gathered.tab8 impl_gathered.bits8 (fun HT_ HW_ => ?_)
            generalize wr.drew = w28 at HO_5 HO_308001 HO_313000 BK300 BK307 BK312 HB HL313_0 HL314_0 HR313_0 HR314_0 hx313_0 hx313_1 hx314_0 hx314_1 hHeld ⊢
            iterate 9 (refine pl_ ?_)
            refine plx_ 10 #[true, true, true, true, true, true, true, true, true, false, true, false, false, false, false, false, false, false] ?_
            refine plx_ 11 #[true, true, true, true, true, true, true, true, true, false, true, true, false, false, false, false, false, false] ?_
            refine plx_ 12 #[true, true, true, true, true, true, true, true, true, false, true, true, true, false, false, false, false, false] ?_
            refine plx_ 13 #[true, true, true, true, true, true, true, true, true, false, true, true, true, true, false, false, false, false] ?_
            refine tlx_ 9 (tf 14 4) ?_
            refine tl_ ?_
            refine one_ (i := 15) (N := some 43) (tf 16 2) rfl rfl (one_of HT_.out (by kernel_rfl)) (by decide) (fun K hK => ?_)
            refine gs_ Try.func80 #[.slice A313_0 ((rd_T74 t304 x7_2).f0).length c313_0, .slice A314_0 ((rd_T74 t304 x7_1).f0).length c314_0] ?_
            with_reducible refine (impl_CompareRow.calls k2 _ _ ((rd_T74 t304 x7_2).f0) _ _ ((rd_T74 t304 x7_1).f0) t315 _ ?side1 ?side2 ?side3 ?side4 A26.out).mono ?_
            (case side1 => exact ck_ (by repeat (first | (with_reducible exact HR313_0.out) | (with_reducible refine Kd.C_alloc ?_ _) | (with_reducible refine Kd.C_drewN ?_ _) | (with_reducible refine Kd.C_drew ?_) | exact HR313_0.out)))
            (case side2 => exact HC313_0.out)
            (case side3 => exact ck_ (by repeat (first | (with_reducible exact HR314_0.out) | (with_reducible refine Kd.C_alloc ?_ _) | (with_reducible refine Kd.C_drewN ?_ _) | (with_reducible refine Kd.C_drew ?_) | exact HR314_0.out)))
            (case side4 => exact HC314_0.out)
            rintro e w29 ⟨rfl, hb⟩
            have HS0_ := (hb.cell (World.block_lt_of_cell? _ _ (hHeld.1))).trans (hHeld.1)
            have HS1_ := (hb.cell (World.block_lt_of_cell? _ _ (hHeld.2.1))).trans (hHeld.2.1)
            have HS2_ := (hb.cell (World.block_lt_of_cell? _ _ (hHeld.2.2.1))).trans (hHeld.2.2.1)
            have HS3_ := (hb.cell (World.block_lt_of_cell? _ _ (hHeld.2.2.2))).trans (hHeld.2.2.2)
            refine ⟨_, rfl, ?_⟩
            replace HO_5 := Aside0.mk (Kd.N_below (by (with_reducible repeat (first | apply Kd.N_alloc | apply Kd.N_drewN | apply Kd.N_drew)); exact HO_5.out) hb)
            replace HO_308001 := Aside0.mk (Kd.N_below (by (with_reducible repeat (first | apply Kd.N_alloc | apply Kd.N_drewN | apply Kd.N_drew)); exact HO_308001.out) hb)
            replace HO_313000 := Aside0.mk (Kd.R_below (rk_ HO_313000.out) hb)
            replace HL313_0 := Aside0.mk (Kd.V_below (by (with_reducible repeat (first | apply Kd.V_alloc | apply Kd.V_drewN | apply Kd.V_drew)); exact HL313_0.out) hb)
            replace HL314_0 := Aside0.mk (Kd.V_below (by (with_reducible repeat (first | apply Kd.V_alloc | apply Kd.V_drewN | apply Kd.V_drew)); exact HL314_0.out) hb)
            replace BK300 := bkb_ BK300 hb
            replace BK307 := bkb_ BK307 hb
            replace BK312 := bkb_ BK312 hb
            replace HR313_0 := Aside0.mk (Kd.C_below (by repeat (first | (with_reducible exact HR313_0.out) | (with_reducible refine Kd.C_alloc ?_ _) | (with_reducible refine Kd.C_drewN ?_ _) | (with_reducible refine Kd.C_drew ?_) | exact HR313_0.out)) hb)
            replace HR314_0 := Aside0.mk (Kd.C_below (by repeat (first | (with_reducible exact HR314_0.out) | (with_reducible refine Kd.C_alloc ?_ _) | (with_reducible refine Kd.C_drewN ?_ _) | (with_reducible refine Kd.C_drew ?_) | exact HR314_0.out)) hb)
            replace HB := bs_ hb
            (try clear hb)
            (try clear hb2)
            (try clear hk)
            (try clear hi)
            refine hK.out _ _ ⟨HS0_, HS1_, HS2_, HS3_⟩ (fun hHeld => ?_)
            clear hK K
            refine nm_ ?_
            refine plx_ 16 (tf 17 1) ?_
            refine pl_ ?_
            refine done_ (done_of HT_.out (by kernel_rfl)) ?_
            try go_wp2
            replace HO_5 := Aside0.mk (Kd.N_drew HO_5.out)
            replace HO_308001 := Aside0.mk (Kd.N_drew HO_308001.out)
            replace HO_313000 := Aside0.mk (Kd.R_drew HO_313000.out)
            replace HL313_0 := Aside0.mk (Kd.V_drew HL313_0.out)
            replace HL314_0 := Aside0.mk (Kd.V_drew HL314_0.out)
            replace BK300 := Aside0.mk (blk_drew BK300.out)
            replace BK307 := Aside0.mk (blk_drew BK307.out)
            replace BK312 := Aside0.mk (blk_drew BK312.out)
            replace HR313_0 := Aside0.mk (Kd.C_drew HR313_0.out)
            replace HR314_0 := Aside0.mk (Kd.C_drew HR314_0.out)
            replace HB := Aside0.mk (below_drew1 HB.out)
            have p316 : 0 ≤ (x7_2 : Int) := od_
            have q316 : x7_2 < (t304.length : Int) := od_
            obtain ⟨ad316, A316_0, c316_0, e316, hx316_0, hx316_1, hl316_0, hi316_0⟩ := at_T74 (Kd.N_reads' HO_5.out).2.2 x7_2 p316 q316
            obtain rfl : ad308 = ad316 := (by injection e316)
            obtain ⟨ce316, hce316, hMe316, hcc316⟩ := Kd.N_get HO_5.out z74 x7_2 p316 (by first | exact q316 | exact od_ | (have e_ := (Kd.N_reads' HO_5.out).1; omega))
            obtain ⟨ua316_0, uc316_0, rfl, ul316_0, ge316_0⟩ := k74_openF hMe316
            have hv316_0 := hcc316 0 _ rfl
            rw [Nat.add_zero] at hv316_0
            replace hv316_0 := Option.some.inj (hv316_0.symm.trans hx316_0)
            injection hv316_0 with hva_ hvn_ hvc_
            rw [hva_] at ge316_0
            rw [hvc_] at ul316_0
            have HL316_0 := Aside0.mk (show Kd.V k25 25 _ w.heap.size _ _ ((rd_T74 t304 x7_2).f0) from Kd.V_mk ul316_0 ge316_0)
            clear hva_ hvn_ hvc_ ge316_0 ul316_0
            clear hcc316 hce316
            have HR316_0 := Aside0.mk hi316_0
            have HC316_0 := Aside0.mk hl316_0
            clear hi316_0 hl316_0
            replace p316 := eq_true p316
            replace q316 := eq_true q316
            refine start_ (n := 10) (S := fun w' => w'.cell? ⟨gb312, 0, none⟩ = some (.slice Ao17 t309.length co17) ∧ w'.cell? ⟨gb312, 1, none⟩ = some (.int .i64 x313001_2) ∧ w'.cell? (ad308.add ((x7_2).toNat * 2)) = some (.slice A316_0 ((rd_T74 t304 x7_2).f0).length c316_0) ∧ w'.cell? ⟨(ad308.add ((x7_2).toNat * 2)).block, (ad308.add ((x7_2).toNat * 2)).off + 1, none⟩ = some (.int .i64 ((rd_T74 t304 x7_2).f1))) (ds := [9]) (tf 0 10) (by kernel_rfl) rfl rfl ⟨bc_ BK312 0, bc_ BK312 1, hx316_0, hx316_1⟩ (fun hHeld => ?_); refine with_tabW impl_gathered.tab10 impl_gathered.bits10 (fun HT_ HW_ => ?_)
            generalize w29.drew = w30 at HO_5 HO_308001 HO_313000 HL313_0 HL314_0 BK300 BK307 BK312 HR313_0 HR314_0 HB HL316_0 HR316_0 hx316_0 hx316_1 hHeld ⊢
            refine pl_ ?_
            refine plx_ 2 #[true, false, true, false, false, false, false, false, false, false] ?_
            refine plx_ 3 #[true, false, true, true, false, false, false, false, false, false] ?_
            refine plx_ 4 #[true, false, true, true, true, false, false, false, false, false] ?_
            refine plx_ 5 #[true, false, true, true, true, true, false, false, false, false] ?_
            refine tlx_ 1 (tf 6 4) ?_
            refine tl_ ?_
            iterate 2 (refine pl_ ?_)
            refine last_ (i := 9) (N := none) (tf 10 0) rfl rfl (one_of HT_.out (by kernel_rfl)) (by decide) (fun K hK => ?_)
            have hs31 : w30.cell? ⟨gb312, 1, none⟩ = some (.int .i64 x313001_2) := bc_ BK312 1
            have hfs31 := blk_frozen BK312.out 1
            have hns31_0 := NB300_312.out
            have hns31_1 := NB307_312.out
            have hms31_0 := NB312_300.out
            have hms31_1 := NB312_307.out
            refine skip_ (w1 := ?_) (by rfl) rfl ?_ ?_
            rotate_left
            ·go_simp
             rfl
            refine hK.out _ _ ?_
            clear hK K
            refine done_ (done_of HT_.out (by kernel_rfl)) ?_
            try go_wp2
            go_roundg k2
            case measure => have := HK1.out; have := HK2.out; omega
            case rel => exact ⟨(wrap64 (x7_2 + 1)), (wrap64 (x313001_2 + ((rd_T74 t304 x7_2).f1))), rs_, H', ⟨by have := HK1.out; have := HK2.out; omega⟩, ⟨by (with_reducible repeat (first | apply Kd.N_alloc | apply Kd.N_drewN | apply Kd.N_drew)); exact Kd.N_mono (Kd.N_far (p := ⟨gb312, 1, none⟩) (Kd.N_mono HO_5.out (fun k_ hk => (⟨hk, hk.2.2.2.2.2⟩ : _ ∧ k_ ≠ gb312))) (fun _ hk => hk.2) (.int .i64 (wrap64 (x313001_2 + ((rd_T74 t304 x7_2).f1))))) (fun _ hk => ⟨hk.1.1, ⟨hk.1.2.1, ⟨hk.1.2.2.1, ⟨hk.1.2.2.2.1, ⟨hk.1.2.2.2.2.1, hk.1.2.2.2.2.2⟩⟩⟩⟩⟩)⟩, ⟨by (with_reducible repeat (first | apply Kd.N_alloc | apply Kd.N_drewN | apply Kd.N_drew)); exact Kd.N_mono (Kd.N_far (p := ⟨gb312, 1, none⟩) (Kd.N_mono HO_308001.out (fun k_ hk => (⟨hk, hk.2.2.2.2.2⟩ : _ ∧ k_ ≠ gb312))) (fun _ hk => hk.2) (.int .i64 (wrap64 (x313001_2 + ((rd_T74 t304 x7_2).f1))))) (fun _ hk => ⟨hk.1.1, ⟨hk.1.2.1, ⟨hk.1.2.2.1, ⟨hk.1.2.2.2.1, ⟨hk.1.2.2.2.2.1, hk.1.2.2.2.2.2⟩⟩⟩⟩⟩)⟩, ⟨by (with_reducible repeat (first | apply Kd.R_alloc | apply Kd.R_drewN | apply Kd.R_drew)); exact Kd.R_mono (Kd.R_far (p := ⟨gb312, 1, none⟩) (Kd.R_types HO_313000.out BK312.out (by decide)) (fun _ hk => hk.2) (.int .i64 (wrap64 (x313001_2 + ((rd_T74 t304 x7_2).f1))))) (fun _ hk => hk.1)⟩, ⟨(bf1_ NB300_312 (bkx_ BK300.out))⟩, ⟨(bf1_ NB307_312 (bkx_ BK307.out))⟩, ⟨by (with_reducible repeat (first | refine blk_drewN ?_ _ | refine blk_drew ?_ | refine blk_alloc ?_ _)); refine blk_put (cs := #[.slice Ao17 t309.length co17, .int .i64 x313001_2]) ?_ 1 _ rfl; (with_reducible repeat (first | refine blk_drewN ?_ _ | refine blk_drew ?_ | refine blk_alloc ?_ _)); exact BK312.out⟩, ⟨bb_⟩⟩
           ·rw [if_neg c27] at H
            have c27b0 : (t315 == 0) = false := beq_eq_false_iff_ne.mpr c27
            have c27b1 : (t315 != 0) = true := bne_iff_ne.mpr c27
            by_cases c32 : x313001_2 = 0
            ·rw [if_pos c32] at H
             have c32b0 : (x313001_2 == 0) = true := beq_iff_eq.mpr c32
             have c32b1 : (x313001_2 != 0) = false := bne_eq_false_iff_eq.mpr c32
             clear c32
             have H' := Aside0.mk H
             clear H
             try go_wp2
             replace HO_5 := Aside0.mk (Kd.N_drew HO_5.out)
             replace HO_308001 := Aside0.mk (Kd.N_drew HO_308001.out)
             replace HO_313000 := Aside0.mk (Kd.R_drew HO_313000.out)
             replace BK300 := Aside0.mk (blk_drew BK300.out)
             replace BK307 := Aside0.mk (blk_drew BK307.out)
             replace BK312 := Aside0.mk (blk_drew BK312.out)
             replace HB := Aside0.mk (below_drew1 HB.out)
             have p313 : 0 ≤ (x7_2 : Int) := od_
             have q313 : x7_2 < (t304.length : Int) := od_
             obtain ⟨ad313, A313_0, c313_0, e313, hx313_0, hx313_1, hl313_0, hi313_0⟩ := at_T74 (Kd.N_reads' HO_5.out).2.2 x7_2 p313 q313
             obtain rfl : ad308 = ad313 := (by injection e313)
             obtain ⟨ce313, hce313, hMe313, hcc313⟩ := Kd.N_get HO_5.out z74 x7_2 p313 (by first | exact q313 | exact od_ | (have e_ := (Kd.N_reads' HO_5.out).1; omega))
             obtain ⟨ua313_0, uc313_0, rfl, ul313_0, ge313_0⟩ := k74_openF hMe313
             have hv313_0 := hcc313 0 _ rfl
             rw [Nat.add_zero] at hv313_0
             replace hv313_0 := Option.some.inj (hv313_0.symm.trans hx313_0)
             injection hv313_0 with hva_ hvn_ hvc_
             rw [hva_] at ge313_0
             rw [hvc_] at ul313_0
             have HL313_0 := Aside0.mk (show Kd.V k25 25 _ w.heap.size _ _ ((rd_T74 t304 x7_2).f0) from Kd.V_mk ul313_0 ge313_0)
             clear hva_ hvn_ hvc_ ge313_0 ul313_0
             clear hcc313 hce313
             have HR313_0 := Aside0.mk hi313_0
             have HC313_0 := Aside0.mk hl313_0
             clear hi313_0 hl313_0
             replace p313 := eq_true p313
             replace q313 := eq_true q313
             have p314 : 0 ≤ (x7_1 : Int) := od_
             have q314 : x7_1 < (t304.length : Int) := od_
             obtain ⟨ad314, A314_0, c314_0, e314, hx314_0, hx314_1, hl314_0, hi314_0⟩ := at_T74 (Kd.N_reads' HO_5.out).2.2 x7_1 p314 q314
             obtain rfl : ad308 = ad314 := (by injection e314)
             obtain ⟨ce314, hce314, hMe314, hcc314⟩ := Kd.N_get HO_5.out z74 x7_1 p314 (by first | exact q314 | exact od_ | (have e_ := (Kd.N_reads' HO_5.out).1; omega))
             obtain ⟨ua314_0, uc314_0, rfl, ul314_0, ge314_0⟩ := k74_openF hMe314
             have hv314_0 := hcc314 0 _ rfl
             rw [Nat.add_zero] at hv314_0
             replace hv314_0 := Option.some.inj (hv314_0.symm.trans hx314_0)
             injection hv314_0 with hva_ hvn_ hvc_
             rw [hva_] at ge314_0
             rw [hvc_] at ul314_0
             have HL314_0 := Aside0.mk (show Kd.V k25 25 _ w.heap.size _ _ ((rd_T74 t304 x7_1).f0) from Kd.V_mk ul314_0 ge314_0)
             clear hva_ hvn_ hvc_ ge314_0 ul314_0
             clear hcc314 hce314
             have HR314_0 := Aside0.mk hi314_0
             have HC314_0 := Aside0.mk hl314_0
             clear hi314_0 hl314_0
             replace p314 := eq_true p314
             replace q314 := eq_true q314
             refine start_ (n := 18) (S := fun w' => w'.cell? (ad308.add ((x7_2).toNat * 2)) = some (.slice A313_0 ((rd_T74 t304 x7_2).f0).length c313_0) ∧ w'.cell? ⟨(ad308.add ((x7_2).toNat * 2)).block, (ad308.add ((x7_2).toNat * 2)).off + 1, none⟩ = some (.int .i64 ((rd_T74 t304 x7_2).f1)) ∧ w'.cell? (ad308.add ((x7_1).toNat * 2)) = some (.slice A314_0 ((rd_T74 t304 x7_1).f0).length c314_0) ∧ w'.cell? ⟨(ad308.add ((x7_1).toNat * 2)).block, (ad308.add ((x7_1).toNat * 2)).off + 1, none⟩ = some (.int .i64 ((rd_T74 t304 x7_1).f1))) (ds := []) (tf 0 18) (by kernel_rfl) rfl rfl ⟨hx313_0, hx313_1, hx314_0, hx314_1⟩ (fun hHeld => ?_); refine with_tabW impl_gathered.tab8 impl_gathered.bits8 (fun HT_ HW_ => ?_)
             generalize wr.drew = w33 at HO_5 HO_308001 HO_313000 BK300 BK307 BK312 HB HL313_0 HL314_0 HR313_0 HR314_0 hx313_0 hx313_1 hx314_0 hx314_1 hHeld ⊢
             iterate 9 (refine pl_ ?_)
             refine plx_ 10 #[true, true, true, true, true, true, true, true, true, false, true, false, false, false, false, false, false, false] ?_
             refine plx_ 11 #[true, true, true, true, true, true, true, true, true, false, true, true, false, false, false, false, false, false] ?_
             refine plx_ 12 #[true, true, true, true, true, true, true, true, true, false, true, true, true, false, false, false, false, false] ?_
             refine plx_ 13 #[true, true, true, true, true, true, true, true, true, false, true, true, true, true, false, false, false, false] ?_
             refine tlx_ 9 (tf 14 4) ?_
             refine tl_ ?_
             refine one_ (i := 15) (N := some 43) (tf 16 2) rfl rfl (one_of HT_.out (by kernel_rfl)) (by decide) (fun K hK => ?_)
             refine gs_ Try.func80 #[.slice A313_0 ((rd_T74 t304 x7_2).f0).length c313_0, .slice A314_0 ((rd_T74 t304 x7_1).f0).length c314_0] ?_
             with_reducible refine (impl_CompareRow.calls k2 _ _ ((rd_T74 t304 x7_2).f0) _ _ ((rd_T74 t304 x7_1).f0) t315 _ ?side1 ?side2 ?side3 ?side4 A26.out).mono ?_
             (case side1 => exact ck_ (by repeat (first | (with_reducible exact HR313_0.out) | (with_reducible refine Kd.C_alloc ?_ _) | (with_reducible refine Kd.C_drewN ?_ _) | (with_reducible refine Kd.C_drew ?_) | exact HR313_0.out)))
             (case side2 => exact HC313_0.out)
             (case side3 => exact ck_ (by repeat (first | (with_reducible exact HR314_0.out) | (with_reducible refine Kd.C_alloc ?_ _) | (with_reducible refine Kd.C_drewN ?_ _) | (with_reducible refine Kd.C_drew ?_) | exact HR314_0.out)))
             (case side4 => exact HC314_0.out)
             rintro e w34 ⟨rfl, hb⟩
             have HS0_ := (hb.cell (World.block_lt_of_cell? _ _ (hHeld.1))).trans (hHeld.1)
             have HS1_ := (hb.cell (World.block_lt_of_cell? _ _ (hHeld.2.1))).trans (hHeld.2.1)
             have HS2_ := (hb.cell (World.block_lt_of_cell? _ _ (hHeld.2.2.1))).trans (hHeld.2.2.1)
             have HS3_ := (hb.cell (World.block_lt_of_cell? _ _ (hHeld.2.2.2))).trans (hHeld.2.2.2)
             refine ⟨_, rfl, ?_⟩
             replace HO_5 := Aside0.mk (Kd.N_below (by (with_reducible repeat (first | apply Kd.N_alloc | apply Kd.N_drewN | apply Kd.N_drew)); exact HO_5.out) hb)
             replace HO_308001 := Aside0.mk (Kd.N_below (by (with_reducible repeat (first | apply Kd.N_alloc | apply Kd.N_drewN | apply Kd.N_drew)); exact HO_308001.out) hb)
             replace HO_313000 := Aside0.mk (Kd.R_below (rk_ HO_313000.out) hb)
             replace HL313_0 := Aside0.mk (Kd.V_below (by (with_reducible repeat (first | apply Kd.V_alloc | apply Kd.V_drewN | apply Kd.V_drew)); exact HL313_0.out) hb)
             replace HL314_0 := Aside0.mk (Kd.V_below (by (with_reducible repeat (first | apply Kd.V_alloc | apply Kd.V_drewN | apply Kd.V_drew)); exact HL314_0.out) hb)
             replace BK300 := bkb_ BK300 hb
             replace BK307 := bkb_ BK307 hb
             replace BK312 := bkb_ BK312 hb
             replace HR313_0 := Aside0.mk (Kd.C_below (by repeat (first | (with_reducible exact HR313_0.out) | (with_reducible refine Kd.C_alloc ?_ _) | (with_reducible refine Kd.C_drewN ?_ _) | (with_reducible refine Kd.C_drew ?_) | exact HR313_0.out)) hb)
             replace HR314_0 := Aside0.mk (Kd.C_below (by repeat (first | (with_reducible exact HR314_0.out) | (with_reducible refine Kd.C_alloc ?_ _) | (with_reducible refine Kd.C_drewN ?_ _) | (with_reducible refine Kd.C_drew ?_) | exact HR314_0.out)) hb)
             replace HB := bs_ hb
             (try clear hb)
             (try clear hb2)
             (try clear hk)
             (try clear hi)
             refine hK.out _ _ ⟨HS0_, HS1_, HS2_, HS3_⟩ (fun hHeld => ?_)
             clear hK K
             refine nm_ ?_
             refine plx_ 16 (tf 17 1) ?_
             refine pl_ ?_
             refine done_ (done_of HT_.out (by kernel_rfl)) ?_
             have hnb35 := NB312_300.out
             have hnc35 := NB300_312.out
             have hnb36 := NB312_307.out
             have hnc36 := NB307_312.out
             obtain ⟨hcz37_0, hcz37_1, hfz37_0, hfz37_1⟩ := b2_ BK312
             try go_wp2
             go_roundg k2
             case measure => have := HK1.out; have := HK2.out; omega
             case rel => exact ⟨(x7_2), (x308001_1), (u308001), rs_, H', ⟨by have := HK1.out; have := HK2.out; omega⟩, ⟨by (with_reducible repeat (first | apply Kd.N_alloc | apply Kd.N_drewN | apply Kd.N_drew)); exact Kd.N_mono HO_5.out (fun _ hk => ⟨hk.1, ⟨hk.2.1, ⟨hk.2.2.2.1, hk.2.2.2.2.1⟩⟩⟩)⟩, ⟨by (with_reducible repeat (first | apply Kd.N_alloc | apply Kd.N_drewN | apply Kd.N_drew)); exact Kd.N_mono HO_308001.out (fun _ hk => ⟨hk.1, ⟨hk.2.1, ⟨hk.2.2.2.1, hk.2.2.2.2.1⟩⟩⟩)⟩, ⟨bkx_ BK300.out⟩, ⟨bkx_ BK307.out⟩, ⟨bb_⟩⟩
            ·rw [if_neg c32] at H
             have c32b0 : (x313001_2 == 0) = false := beq_eq_false_iff_ne.mpr c32
             have c32b1 : (x313001_2 != 0) = true := bne_iff_ne.mpr c32
             by_cases c38 : x308001_1.length < 4398046511104
             ·rw [if_pos c38] at H
              have LMc38 := Aside0.mk c38
              clear c38
              obtain ⟨y317, hy317⟩ : ∃ y_ : List (S74), y_ = (x308001_1 ++ [(⟨t309, x313001_2⟩ : S74)]) := ⟨_, rfl⟩
              replace H : (impl_gathered.l0 k2 t304 x7_2 a0 y317) = some (r1, r2) := by first | (rw [hy317]; with_reducible exact H) | (have H2_ := (Option.bind_some _ _).symm.trans H; rw [hy317]; with_reducible exact H2_) | (have H2_ := (Option.bind_some _ _).symm.trans H; with_reducible exact H2_) | with_reducible exact H | (rw [hy317]; exact H) | exact H
              have Ny317 := Aside0.mk hy317
              clear hy317
              have H' := Aside0.mk H
              clear H
              try go_wp2
              replace HO_5 := Aside0.mk (Kd.N_drew HO_5.out)
              replace HO_308001 := Aside0.mk (Kd.N_drew HO_308001.out)
              replace HO_313000 := Aside0.mk (Kd.R_drew HO_313000.out)
              replace BK300 := Aside0.mk (blk_drew BK300.out)
              replace BK307 := Aside0.mk (blk_drew BK307.out)
              replace BK312 := Aside0.mk (blk_drew BK312.out)
              replace HB := Aside0.mk (below_drew1 HB.out)
              have p313 : 0 ≤ (x7_2 : Int) := od_
              have q313 : x7_2 < (t304.length : Int) := od_
              obtain ⟨ad313, A313_0, c313_0, e313, hx313_0, hx313_1, hl313_0, hi313_0⟩ := at_T74 (Kd.N_reads' HO_5.out).2.2 x7_2 p313 q313
              obtain rfl : ad308 = ad313 := (by injection e313)
              obtain ⟨ce313, hce313, hMe313, hcc313⟩ := Kd.N_get HO_5.out z74 x7_2 p313 (by first | exact q313 | exact od_ | (have e_ := (Kd.N_reads' HO_5.out).1; omega))
              obtain ⟨ua313_0, uc313_0, rfl, ul313_0, ge313_0⟩ := k74_openF hMe313
              have hv313_0 := hcc313 0 _ rfl
              rw [Nat.add_zero] at hv313_0
              replace hv313_0 := Option.some.inj (hv313_0.symm.trans hx313_0)
              injection hv313_0 with hva_ hvn_ hvc_
              rw [hva_] at ge313_0
              rw [hvc_] at ul313_0
              have HL313_0 := Aside0.mk (show Kd.V k25 25 _ w.heap.size _ _ ((rd_T74 t304 x7_2).f0) from Kd.V_mk ul313_0 ge313_0)
              clear hva_ hvn_ hvc_ ge313_0 ul313_0
              clear hcc313 hce313
              have HR313_0 := Aside0.mk hi313_0
              have HC313_0 := Aside0.mk hl313_0
              clear hi313_0 hl313_0
              replace p313 := eq_true p313
              replace q313 := eq_true q313
              have p314 : 0 ≤ (x7_1 : Int) := od_
              have q314 : x7_1 < (t304.length : Int) := od_
              obtain ⟨ad314, A314_0, c314_0, e314, hx314_0, hx314_1, hl314_0, hi314_0⟩ := at_T74 (Kd.N_reads' HO_5.out).2.2 x7_1 p314 q314
              obtain rfl : ad308 = ad314 := (by injection e314)
              obtain ⟨ce314, hce314, hMe314, hcc314⟩ := Kd.N_get HO_5.out z74 x7_1 p314 (by first | exact q314 | exact od_ | (have e_ := (Kd.N_reads' HO_5.out).1; omega))
              obtain ⟨ua314_0, uc314_0, rfl, ul314_0, ge314_0⟩ := k74_openF hMe314
              have hv314_0 := hcc314 0 _ rfl
              rw [Nat.add_zero] at hv314_0
              replace hv314_0 := Option.some.inj (hv314_0.symm.trans hx314_0)
              injection hv314_0 with hva_ hvn_ hvc_
              rw [hva_] at ge314_0
              rw [hvc_] at ul314_0
              have HL314_0 := Aside0.mk (show Kd.V k25 25 _ w.heap.size _ _ ((rd_T74 t304 x7_1).f0) from Kd.V_mk ul314_0 ge314_0)
              clear hva_ hvn_ hvc_ ge314_0 ul314_0
              clear hcc314 hce314
              have HR314_0 := Aside0.mk hi314_0
              have HC314_0 := Aside0.mk hl314_0
              clear hi314_0 hl314_0
              replace p314 := eq_true p314
              replace q314 := eq_true q314
              refine start_ (n := 18) (S := fun w' => w'.cell? (ad308.add ((x7_2).toNat * 2)) = some (.slice A313_0 ((rd_T74 t304 x7_2).f0).length c313_0) ∧ w'.cell? ⟨(ad308.add ((x7_2).toNat * 2)).block, (ad308.add ((x7_2).toNat * 2)).off + 1, none⟩ = some (.int .i64 ((rd_T74 t304 x7_2).f1)) ∧ w'.cell? (ad308.add ((x7_1).toNat * 2)) = some (.slice A314_0 ((rd_T74 t304 x7_1).f0).length c314_0) ∧ w'.cell? ⟨(ad308.add ((x7_1).toNat * 2)).block, (ad308.add ((x7_1).toNat * 2)).off + 1, none⟩ = some (.int .i64 ((rd_T74 t304 x7_1).f1))) (ds := []) (tf 0 18) (by kernel_rfl) rfl rfl ⟨hx313_0, hx313_1, hx314_0, hx314_1⟩ (fun hHeld => ?_); refine with_tabW impl_gathered.tab8 impl_gathered.bits8 (fun HT_ HW_ => ?_)
              generalize wr.drew = w39 at HO_5 HO_308001 HO_313000 BK300 BK307 BK312 HB HL313_0 HL314_0 HR313_0 HR314_0 hx313_0 hx313_1 hx314_0 hx314_1 hHeld ⊢
              iterate 9 (refine pl_ ?_)
              refine plx_ 10 #[true, true, true, true, true, true, true, true, true, false, true, false, false, false, false, false, false, false] ?_
              refine plx_ 11 #[true, true, true, true, true, true, true, true, true, false, true, true, false, false, false, false, false, false] ?_
              refine plx_ 12 #[true, true, true, true, true, true, true, true, true, false, true, true, true, false, false, false, false, false] ?_
              refine plx_ 13 #[true, true, true, true, true, true, true, true, true, false, true, true, true, true, false, false, false, false] ?_
              refine tlx_ 9 (tf 14 4) ?_
              refine tl_ ?_
              refine one_ (i := 15) (N := some 43) (tf 16 2) rfl rfl (one_of HT_.out (by kernel_rfl)) (by decide) (fun K hK => ?_)
              refine gs_ Try.func80 #[.slice A313_0 ((rd_T74 t304 x7_2).f0).length c313_0, .slice A314_0 ((rd_T74 t304 x7_1).f0).length c314_0] ?_
              with_reducible refine (impl_CompareRow.calls k2 _ _ ((rd_T74 t304 x7_2).f0) _ _ ((rd_T74 t304 x7_1).f0) t315 _ ?side1 ?side2 ?side3 ?side4 A26.out).mono ?_
              (case side1 => exact ck_ (by repeat (first | (with_reducible exact HR313_0.out) | (with_reducible refine Kd.C_alloc ?_ _) | (with_reducible refine Kd.C_drewN ?_ _) | (with_reducible refine Kd.C_drew ?_) | exact HR313_0.out)))
              (case side2 => exact HC313_0.out)
              (case side3 => exact ck_ (by repeat (first | (with_reducible exact HR314_0.out) | (with_reducible refine Kd.C_alloc ?_ _) | (with_reducible refine Kd.C_drewN ?_ _) | (with_reducible refine Kd.C_drew ?_) | exact HR314_0.out)))
              (case side4 => exact HC314_0.out)
              rintro e w40 ⟨rfl, hb⟩
              have HS0_ := (hb.cell (World.block_lt_of_cell? _ _ (hHeld.1))).trans (hHeld.1)
              have HS1_ := (hb.cell (World.block_lt_of_cell? _ _ (hHeld.2.1))).trans (hHeld.2.1)
              have HS2_ := (hb.cell (World.block_lt_of_cell? _ _ (hHeld.2.2.1))).trans (hHeld.2.2.1)
              have HS3_ := (hb.cell (World.block_lt_of_cell? _ _ (hHeld.2.2.2))).trans (hHeld.2.2.2)
              refine ⟨_, rfl, ?_⟩
              replace HO_5 := Aside0.mk (Kd.N_below (by (with_reducible repeat (first | apply Kd.N_alloc | apply Kd.N_drewN | apply Kd.N_drew)); exact HO_5.out) hb)
              replace HO_308001 := Aside0.mk (Kd.N_below (by (with_reducible repeat (first | apply Kd.N_alloc | apply Kd.N_drewN | apply Kd.N_drew)); exact HO_308001.out) hb)
              replace HO_313000 := Aside0.mk (Kd.R_below (rk_ HO_313000.out) hb)
              replace HL313_0 := Aside0.mk (Kd.V_below (by (with_reducible repeat (first | apply Kd.V_alloc | apply Kd.V_drewN | apply Kd.V_drew)); exact HL313_0.out) hb)
              replace HL314_0 := Aside0.mk (Kd.V_below (by (with_reducible repeat (first | apply Kd.V_alloc | apply Kd.V_drewN | apply Kd.V_drew)); exact HL314_0.out) hb)
              replace BK300 := bkb_ BK300 hb
              replace BK307 := bkb_ BK307 hb
              replace BK312 := bkb_ BK312 hb
              replace HR313_0 := Aside0.mk (Kd.C_below (by repeat (first | (with_reducible exact HR313_0.out) | (with_reducible refine Kd.C_alloc ?_ _) | (with_reducible refine Kd.C_drewN ?_ _) | (with_reducible refine Kd.C_drew ?_) | exact HR313_0.out)) hb)
              replace HR314_0 := Aside0.mk (Kd.C_below (by repeat (first | (with_reducible exact HR314_0.out) | (with_reducible refine Kd.C_alloc ?_ _) | (with_reducible refine Kd.C_drewN ?_ _) | (with_reducible refine Kd.C_drew ?_) | exact HR314_0.out)) hb)
              replace HB := bs_ hb
              (try clear hb)
              (try clear hb2)
              (try clear hk)
              (try clear hi)
              refine hK.out _ _ ⟨HS0_, HS1_, HS2_, HS3_⟩ (fun hHeld => ?_)
              clear hK K
              refine nm_ ?_
              refine plx_ 16 (tf 17 1) ?_
              refine pl_ ?_
              refine done_ (done_of HT_.out (by kernel_rfl)) ?_
              have hnb41 := NB312_300.out
              have hnc41 := NB300_312.out
              have hnb42 := NB312_307.out
              have hnc42 := NB307_312.out
              obtain ⟨hcz43_0, hcz43_1, hfz43_0, hfz43_1⟩ := b2_ BK312
              have hnb44 := NB307_300.out
              have hnc44 := NB300_307.out
              obtain ⟨hcz45_0, hcz45_1, hfz45_0, hfz45_1⟩ := b2_ BK307
              try go_wp2_with (first | ((with_reducible refine gate_builtin (b := .append) (xs := #[.tmp 61, .tmp 63]) rfl ?_); at_builtin; refine Kd.N_append k74 (w0 := w) w.heap.size rfl (.tmp 61) (.tmp 63) 38 74 (.agg #[(.slice none 0 0), (.int .i64 0)]) 32 rfl Try.underlying38 info74 rfl (by decide) (by omega) u308001 x308001_1 (⟨t309, x313001_2⟩ : S74) [.slice Ao17 t309.length co17, .int .i64 x313001_2] (fun k_ => (P1_ k_ ∨ w.heap.size ≤ k_) ∧ some k_ ≠ (.slice (some ad308) t304.length co15 : Value).ownBlock ∧ k_ ≠ gb300 ∧ k_ ≠ gb307 ∧ k_ ≠ gb312) (fun k_ => ((fun k_ => (P1_ k_ ∨ w.heap.size ≤ k_) ∧ some k_ ≠ (.slice (some ad308) t304.length co15 : Value).ownBlock ∧ k_ ≠ gb300 ∧ k_ ≠ gb307 ∧ k_ ≠ gb312)) k_ ∧ some k_ ≠ (u308001 : Value).ownBlock) rfl rfl ?aP (fun _ hk => hk) ?aF ?aO ?aB ?aS ?aL ?_; (case aP => exact (k74_mkF _ _ (⟨t309, x313001_2⟩ : S74) (Kd.R_reads' (Kd.R_mono (ok' := (fun k_ => ((fun k_ => (P1_ k_ ∨ w.heap.size ≤ k_) ∧ some k_ ≠ (.slice (some ad308) t304.length co15 : Value).ownBlock ∧ k_ ≠ gb300 ∧ k_ ≠ gb307 ∧ k_ ≠ gb312)) k_ ∧ some k_ ≠ (u308001 : Value).ownBlock)) (Kd.R_types (Kd.R_types (Kd.R_types (Kd.R_apart' (Kd.R_apart' (HO_313000.out) (Kd.N_typed HO_5.out) (by decide)) (Kd.N_typed HO_308001.out) (by decide)) BK300.out (by decide)) BK307.out (by decide)) BK312.out (by decide)) (fun k_ hk => ⟨⟨(.inr (hk.1.1.1.1.1)), ⟨hk.1.1.1.1.2, ⟨hk.1.1.2, ⟨hk.1.2, hk.2⟩⟩⟩⟩, hk.1.1.1.2⟩))).2.1 (Kd.R_F (Kd.R_mono (ok' := (fun k_ => ((fun k_ => (P1_ k_ ∨ w.heap.size ≤ k_) ∧ some k_ ≠ (.slice (some ad308) t304.length co15 : Value).ownBlock ∧ k_ ≠ gb300 ∧ k_ ≠ gb307 ∧ k_ ≠ gb312)) k_ ∧ some k_ ≠ (u308001 : Value).ownBlock)) (Kd.R_types (Kd.R_types (Kd.R_types (Kd.R_apart' (Kd.R_apart' (HO_313000.out) (Kd.N_typed HO_5.out) (by decide)) (Kd.N_typed HO_308001.out) (by decide)) BK300.out (by decide)) BK307.out (by decide)) BK312.out (by decide)) (fun k_ hk => ⟨⟨(.inr (hk.1.1.1.1.1)), ⟨hk.1.1.1.1.2, ⟨hk.1.1.2, ⟨hk.1.2, hk.2⟩⟩⟩⟩, hk.1.1.1.2⟩))))); (case aB => exact bb_); (case aF => exact (fun k_ hk => ⟨(.inr (Nat.le_trans (below_size bb_) hk)), Kd.fresh' (Kd.N_lt (by (with_reducible repeat (first | apply Kd.N_alloc | apply Kd.N_drewN | apply Kd.N_drew)); exact HO_5.out)) k_ hk, Kd.freshB (g := gb300) (o := .cells #[.int .i64 0, .slice none 0 0] 40 (0, 0)) (bkx_ BK300.out) k_ hk, Kd.freshB (g := gb307) (o := .cells #[.int .i64 a0, u308001] 40 (0, 0)) (bkx_ BK307.out) k_ hk, Kd.freshB (g := gb312) (o := .cells #[.slice Ao17 t309.length co17, .int .i64 x313001_2] 74 (0, 0)) (bkx_ BK312.out) k_ hk⟩)); (case aO => exact (by (with_reducible repeat (first | apply Kd.N_alloc | apply Kd.N_drewN | apply Kd.N_drew)); exact Kd.N_mono HO_308001.out (fun _ hk => ⟨hk.1, ⟨hk.2.1, ⟨hk.2.2.2.1, ⟨hk.2.2.2.2.1, hk.2.2.2.2.2⟩⟩⟩⟩))); (case aS => exact (below_size bb_)); (case aL => have := LMc38.out; omega); intro v318 w46 ho hb hg hat; rw [← Ny317.out] at ho; have HO319 := Aside0.mk (ho); replace HO_5 := Aside0.mk (Kd.N_afterv (ok := (fun k_ => (P1_ k_ ∨ w.heap.size ≤ k_) ∧ some k_ ≠ (.slice Ao17 t309.length co17 : Value).ownBlock ∧ k_ ≠ gb300 ∧ k_ ≠ gb307 ∧ k_ ≠ gb312)) (by (with_reducible repeat (first | apply Kd.N_alloc | apply Kd.N_drewN | apply Kd.N_drew)); exact Kd.N_mono HO_5.out (fun _ hk => ⟨⟨hk.1, ⟨hk.2.2.1, ⟨hk.2.2.2.1, ⟨hk.2.2.2.2.1, hk.2.2.2.2.2⟩⟩⟩⟩, hk.2.1⟩)) hg hat); replace BK300 := Aside0.mk (blk_grown (g := gb300) (o := .cells #[.int .i64 0, .slice none 0 0] 40 (0, 0)) (bkx_ BK300.out) hg (Kd.N_ne HO_308001.out BK300.out (by decide))); replace BK307 := Aside0.mk (blk_grown (g := gb307) (o := .cells #[.int .i64 a0, u308001] 40 (0, 0)) (bkx_ BK307.out) hg (Kd.N_ne HO_308001.out BK307.out (by decide))); replace BK312 := Aside0.mk (blk_grown (g := gb312) (o := .cells #[.slice Ao17 t309.length co17, .int .i64 x313001_2] 74 (0, 0)) (bkx_ BK312.out) hg (Kd.N_away HO_308001.out (fun _ hk => hk.2.2.2.2.2))); replace HL313_0 := Aside0.mk (Kd.V_afterv (ok := (fun k_ => (P1_ k_ ∨ w.heap.size ≤ k_) ∧ some k_ ≠ (.slice (some ad308) t304.length co15 : Value).ownBlock ∧ some k_ ≠ (.slice Ao17 t309.length co17 : Value).ownBlock ∧ k_ ≠ gb300 ∧ k_ ≠ gb307 ∧ k_ ≠ gb312)) (by (with_reducible repeat (first | apply Kd.V_alloc | apply Kd.V_drewN | apply Kd.V_drew)); exact Kd.V_mono HL313_0.out (fun _ hk => ⟨⟨hk.1.1, ⟨hk.2, ⟨hk.1.2.2.1, ⟨hk.1.2.2.2.1, ⟨hk.1.2.2.2.2.1, hk.1.2.2.2.2.2⟩⟩⟩⟩⟩, hk.1.2.1⟩)) hg hat); replace HL314_0 := Aside0.mk (Kd.V_afterv (ok := (fun k_ => (P1_ k_ ∨ w.heap.size ≤ k_) ∧ some k_ ≠ (.slice (some ad308) t304.length co15 : Value).ownBlock ∧ some k_ ≠ (.slice Ao17 t309.length co17 : Value).ownBlock ∧ k_ ≠ gb300 ∧ k_ ≠ gb307 ∧ k_ ≠ gb312)) (by (with_reducible repeat (first | apply Kd.V_alloc | apply Kd.V_drewN | apply Kd.V_drew)); exact Kd.V_mono HL314_0.out (fun _ hk => ⟨⟨hk.1.1, ⟨hk.2, ⟨hk.1.2.2.1, ⟨hk.1.2.2.2.1, ⟨hk.1.2.2.2.2.1, hk.1.2.2.2.2.2⟩⟩⟩⟩⟩, hk.1.2.1⟩)) hg hat); replace HB := Aside0.mk (hb); clear HO_308001 HO_313000; clear ho hb hg hat; obtain ⟨Ao47, co47, eo47⟩ := Kd.N_slice HO319.out; subst eo47; obtain ⟨hcz48_0, hcz48_1, hfz48_0, hfz48_1⟩ := b2_ BK307))
              go_roundg k2
              case measure => have := HK1.out; have := HK2.out; omega
              case rel => exact ⟨(x7_2), (y317), (.slice Ao47 y317.length co47), rs_, H', ⟨by have := HK1.out; have := HK2.out; omega⟩, ⟨by (with_reducible repeat (first | apply Kd.N_alloc | apply Kd.N_drewN | apply Kd.N_drew)); exact Kd.N_mono (Kd.N_far (p := ⟨gb307, 1, none⟩) (Kd.N_mono HO_5.out (fun k_ hk => (⟨hk, hk.1.2.2.2.1⟩ : _ ∧ k_ ≠ gb307))) (fun _ hk => hk.2) (.slice Ao47 y317.length co47)) (fun _ hk => ⟨hk.1.1.1, ⟨hk.1.2, ⟨hk.1.1.2.2.1, hk.1.1.2.2.2.1⟩⟩⟩)⟩, ⟨by (with_reducible repeat (first | apply Kd.N_alloc | apply Kd.N_drewN | apply Kd.N_drew)); exact Kd.N_mono (Kd.N_far (p := ⟨gb307, 1, none⟩) (Kd.N_mono HO319.out (fun k_ hk => (⟨hk, hk.2.2.2.1⟩ : _ ∧ k_ ≠ gb307))) (fun _ hk => hk.2) (.slice Ao47 y317.length co47)) (fun _ hk => ⟨hk.1.1, ⟨hk.1.2.1, ⟨hk.1.2.2.1, hk.1.2.2.2.1⟩⟩⟩)⟩, ⟨(bf1_ NB300_307 (bkx_ BK300.out))⟩, ⟨by (with_reducible repeat (first | refine blk_drewN ?_ _ | refine blk_drew ?_ | refine blk_alloc ?_ _)); refine blk_put (cs := #[.int .i64 a0, u308001]) ?_ 1 _ rfl; (with_reducible repeat (first | refine blk_drewN ?_ _ | refine blk_drew ?_ | refine blk_alloc ?_ _)); exact BK307.out⟩, ⟨bb_⟩⟩
             ·rw [if_neg c38] at H
              exact absurd H (by simp)
          ·rw [if_neg c25] at H
           exact absurd H (by simp)
         ·rw [if_neg c24] at H
          exact absurd H (by simp)
        ·rw [if_neg c23] at H
         exact absurd H (by simp)
       ·rw [if_neg c22] at H
        have c22b0 : decide (x7_2 < (t304.length : Int)) = false := decide_eq_false c22
        clear c22
        by_cases c49 : x313001_2 = 0
        ·rw [if_pos c49] at H
         have c49b0 : (x313001_2 == 0) = true := beq_iff_eq.mpr c49
         have c49b1 : (x313001_2 != 0) = false := bne_eq_false_iff_eq.mpr c49
         clear c49
         have H' := Aside0.mk H
         clear H
         try go_wp2
         replace HO_5 := Aside0.mk (Kd.N_drew HO_5.out)
         replace HO_308001 := Aside0.mk (Kd.N_drew HO_308001.out)
         replace HO_313000 := Aside0.mk (Kd.R_drew HO_313000.out)
         replace BK300 := Aside0.mk (blk_drew BK300.out)
         replace BK307 := Aside0.mk (blk_drew BK307.out)
         replace BK312 := Aside0.mk (blk_drew BK312.out)
         replace HB := Aside0.mk (below_drew1 HB.out)
         refine start_ (n := 18) (S := fun w' => True) (ds := []) (tf 0 18) (by kernel_rfl) rfl rfl trivial (fun hHeld => ?_); refine with_tabW impl_gathered.tab8 impl_gathered.bits8 (fun HT_ HW_ => ?_)
         generalize wr.drew = w50 at HO_5 HO_308001 HO_313000 BK300 BK307 BK312 HB hHeld ⊢
         iterate 5 (refine pl_ ?_)
         iterate 12 (refine pd_ ?_)
         refine pl_ ?_
         refine done_ (done_of HT_.out (by kernel_rfl)) ?_
         have hnb51 := NB312_300.out
         have hnc51 := NB300_312.out
         have hnb52 := NB312_307.out
         have hnc52 := NB307_312.out
         obtain ⟨hcz53_0, hcz53_1, hfz53_0, hfz53_1⟩ := b2_ BK312
         try go_wp2
         go_roundg k2
         case measure => have := HK1.out; have := HK2.out; omega
         case rel => exact ⟨(x7_2), (x308001_1), (u308001), rs_, H', ⟨by have := HK1.out; have := HK2.out; omega⟩, ⟨by (with_reducible repeat (first | apply Kd.N_alloc | apply Kd.N_drewN | apply Kd.N_drew)); exact Kd.N_mono HO_5.out (fun _ hk => ⟨hk.1, ⟨hk.2.1, ⟨hk.2.2.2.1, hk.2.2.2.2.1⟩⟩⟩)⟩, ⟨by (with_reducible repeat (first | apply Kd.N_alloc | apply Kd.N_drewN | apply Kd.N_drew)); exact Kd.N_mono HO_308001.out (fun _ hk => ⟨hk.1, ⟨hk.2.1, ⟨hk.2.2.2.1, hk.2.2.2.2.1⟩⟩⟩)⟩, ⟨bkx_ BK300.out⟩, ⟨bkx_ BK307.out⟩, ⟨bb_⟩⟩
        ·rw [if_neg c49] at H
         have c49b0 : (x313001_2 == 0) = false := beq_eq_false_iff_ne.mpr c49
         have c49b1 : (x313001_2 != 0) = true := bne_iff_ne.mpr c49
         by_cases c54 : x308001_1.length < 4398046511104
         ·rw [if_pos c54] at H
          have LMc54 := Aside0.mk c54
          clear c54
          obtain ⟨y320, hy320⟩ : ∃ y_ : List (S74), y_ = (x308001_1 ++ [(⟨t309, x313001_2⟩ : S74)]) := ⟨_, rfl⟩
          replace H : (impl_gathered.l0 k2 t304 x7_2 a0 y320) = some (r1, r2) := by first | (rw [hy320]; with_reducible exact H) | (have H2_ := (Option.bind_some _ _).symm.trans H; rw [hy320]; with_reducible exact H2_) | (have H2_ := (Option.bind_some _ _).symm.trans H; with_reducible exact H2_) | with_reducible exact H | (rw [hy320]; exact H) | exact H
          have Ny320 := Aside0.mk hy320
          clear hy320
          have H' := Aside0.mk H
          clear H
          try go_wp2
          replace HO_5 := Aside0.mk (Kd.N_drew HO_5.out)
          replace HO_308001 := Aside0.mk (Kd.N_drew HO_308001.out)
          replace HO_313000 := Aside0.mk (Kd.R_drew HO_313000.out)
          replace BK300 := Aside0.mk (blk_drew BK300.out)
          replace BK307 := Aside0.mk (blk_drew BK307.out)
          replace BK312 := Aside0.mk (blk_drew BK312.out)
          replace HB := Aside0.mk (below_drew1 HB.out)
          refine start_ (n := 18) (S := fun w' => True) (ds := []) (tf 0 18) (by kernel_rfl) rfl rfl trivial (fun hHeld => ?_); refine with_tabW impl_gathered.tab8 impl_gathered.bits8 (fun HT_ HW_ => ?_)
          generalize wr.drew = w55 at HO_5 HO_308001 HO_313000 BK300 BK307 BK312 HB hHeld ⊢
          iterate 5 (refine pl_ ?_)
          iterate 12 (refine pd_ ?_)
          refine pl_ ?_
          refine done_ (done_of HT_.out (by kernel_rfl)) ?_
          have hnb56 := NB312_300.out
          have hnc56 := NB300_312.out
          have hnb57 := NB312_307.out
          have hnc57 := NB307_312.out
          obtain ⟨hcz58_0, hcz58_1, hfz58_0, hfz58_1⟩ := b2_ BK312
          have hnb59 := NB307_300.out
          have hnc59 := NB300_307.out
          obtain ⟨hcz60_0, hcz60_1, hfz60_0, hfz60_1⟩ := b2_ BK307
          try go_wp2_with (first | ((with_reducible refine gate_builtin (b := .append) (xs := #[.tmp 61, .tmp 63]) rfl ?_); at_builtin; refine Kd.N_append k74 (w0 := w) w.heap.size rfl (.tmp 61) (.tmp 63) 38 74 (.agg #[(.slice none 0 0), (.int .i64 0)]) 32 rfl Try.underlying38 info74 rfl (by decide) (by omega) u308001 x308001_1 (⟨t309, x313001_2⟩ : S74) [.slice Ao17 t309.length co17, .int .i64 x313001_2] (fun k_ => (P1_ k_ ∨ w.heap.size ≤ k_) ∧ some k_ ≠ (.slice (some ad308) t304.length co15 : Value).ownBlock ∧ k_ ≠ gb300 ∧ k_ ≠ gb307 ∧ k_ ≠ gb312) (fun k_ => ((fun k_ => (P1_ k_ ∨ w.heap.size ≤ k_) ∧ some k_ ≠ (.slice (some ad308) t304.length co15 : Value).ownBlock ∧ k_ ≠ gb300 ∧ k_ ≠ gb307 ∧ k_ ≠ gb312)) k_ ∧ some k_ ≠ (u308001 : Value).ownBlock) rfl rfl ?aP (fun _ hk => hk) ?aF ?aO ?aB ?aS ?aL ?_; (case aP => exact (k74_mkF _ _ (⟨t309, x313001_2⟩ : S74) (Kd.R_reads' (Kd.R_mono (ok' := (fun k_ => ((fun k_ => (P1_ k_ ∨ w.heap.size ≤ k_) ∧ some k_ ≠ (.slice (some ad308) t304.length co15 : Value).ownBlock ∧ k_ ≠ gb300 ∧ k_ ≠ gb307 ∧ k_ ≠ gb312)) k_ ∧ some k_ ≠ (u308001 : Value).ownBlock)) (Kd.R_types (Kd.R_types (Kd.R_types (Kd.R_apart' (Kd.R_apart' (HO_313000.out) (Kd.N_typed HO_5.out) (by decide)) (Kd.N_typed HO_308001.out) (by decide)) BK300.out (by decide)) BK307.out (by decide)) BK312.out (by decide)) (fun k_ hk => ⟨⟨(.inr (hk.1.1.1.1.1)), ⟨hk.1.1.1.1.2, ⟨hk.1.1.2, ⟨hk.1.2, hk.2⟩⟩⟩⟩, hk.1.1.1.2⟩))).2.1 (Kd.R_F (Kd.R_mono (ok' := (fun k_ => ((fun k_ => (P1_ k_ ∨ w.heap.size ≤ k_) ∧ some k_ ≠ (.slice (some ad308) t304.length co15 : Value).ownBlock ∧ k_ ≠ gb300 ∧ k_ ≠ gb307 ∧ k_ ≠ gb312)) k_ ∧ some k_ ≠ (u308001 : Value).ownBlock)) (Kd.R_types (Kd.R_types (Kd.R_types (Kd.R_apart' (Kd.R_apart' (HO_313000.out) (Kd.N_typed HO_5.out) (by decide)) (Kd.N_typed HO_308001.out) (by decide)) BK300.out (by decide)) BK307.out (by decide)) BK312.out (by decide)) (fun k_ hk => ⟨⟨(.inr (hk.1.1.1.1.1)), ⟨hk.1.1.1.1.2, ⟨hk.1.1.2, ⟨hk.1.2, hk.2⟩⟩⟩⟩, hk.1.1.1.2⟩))))); (case aB => exact bb_); (case aF => exact (fun k_ hk => ⟨(.inr (Nat.le_trans (below_size bb_) hk)), Kd.fresh' (Kd.N_lt (by (with_reducible repeat (first | apply Kd.N_alloc | apply Kd.N_drewN | apply Kd.N_drew)); exact HO_5.out)) k_ hk, Kd.freshB (g := gb300) (o := .cells #[.int .i64 0, .slice none 0 0] 40 (0, 0)) (bkx_ BK300.out) k_ hk, Kd.freshB (g := gb307) (o := .cells #[.int .i64 a0, u308001] 40 (0, 0)) (bkx_ BK307.out) k_ hk, Kd.freshB (g := gb312) (o := .cells #[.slice Ao17 t309.length co17, .int .i64 x313001_2] 74 (0, 0)) (bkx_ BK312.out) k_ hk⟩)); (case aO => exact (by (with_reducible repeat (first | apply Kd.N_alloc | apply Kd.N_drewN | apply Kd.N_drew)); exact Kd.N_mono HO_308001.out (fun _ hk => ⟨hk.1, ⟨hk.2.1, ⟨hk.2.2.2.1, ⟨hk.2.2.2.2.1, hk.2.2.2.2.2⟩⟩⟩⟩))); (case aS => exact (below_size bb_)); (case aL => have := LMc54.out; omega); intro v321 w61 ho hb hg hat; rw [← Ny320.out] at ho; have HO322 := Aside0.mk (ho); replace HO_5 := Aside0.mk (Kd.N_afterv (ok := (fun k_ => (P1_ k_ ∨ w.heap.size ≤ k_) ∧ some k_ ≠ (.slice Ao17 t309.length co17 : Value).ownBlock ∧ k_ ≠ gb300 ∧ k_ ≠ gb307 ∧ k_ ≠ gb312)) (by (with_reducible repeat (first | apply Kd.N_alloc | apply Kd.N_drewN | apply Kd.N_drew)); exact Kd.N_mono HO_5.out (fun _ hk => ⟨⟨hk.1, ⟨hk.2.2.1, ⟨hk.2.2.2.1, ⟨hk.2.2.2.2.1, hk.2.2.2.2.2⟩⟩⟩⟩, hk.2.1⟩)) hg hat); replace BK300 := Aside0.mk (blk_grown (g := gb300) (o := .cells #[.int .i64 0, .slice none 0 0] 40 (0, 0)) (bkx_ BK300.out) hg (Kd.N_ne HO_308001.out BK300.out (by decide))); replace BK307 := Aside0.mk (blk_grown (g := gb307) (o := .cells #[.int .i64 a0, u308001] 40 (0, 0)) (bkx_ BK307.out) hg (Kd.N_ne HO_308001.out BK307.out (by decide))); replace BK312 := Aside0.mk (blk_grown (g := gb312) (o := .cells #[.slice Ao17 t309.length co17, .int .i64 x313001_2] 74 (0, 0)) (bkx_ BK312.out) hg (Kd.N_away HO_308001.out (fun _ hk => hk.2.2.2.2.2))); replace HB := Aside0.mk (hb); clear HO_308001 HO_313000; clear ho hb hg hat; obtain ⟨Ao62, co62, eo62⟩ := Kd.N_slice HO322.out; subst eo62; obtain ⟨hcz63_0, hcz63_1, hfz63_0, hfz63_1⟩ := b2_ BK307))
          go_roundg k2
          case measure => have := HK1.out; have := HK2.out; omega
          case rel => exact ⟨(x7_2), (y320), (.slice Ao62 y320.length co62), rs_, H', ⟨by have := HK1.out; have := HK2.out; omega⟩, ⟨by (with_reducible repeat (first | apply Kd.N_alloc | apply Kd.N_drewN | apply Kd.N_drew)); exact Kd.N_mono (Kd.N_far (p := ⟨gb307, 1, none⟩) (Kd.N_mono HO_5.out (fun k_ hk => (⟨hk, hk.1.2.2.2.1⟩ : _ ∧ k_ ≠ gb307))) (fun _ hk => hk.2) (.slice Ao62 y320.length co62)) (fun _ hk => ⟨hk.1.1.1, ⟨hk.1.2, ⟨hk.1.1.2.2.1, hk.1.1.2.2.2.1⟩⟩⟩)⟩, ⟨by (with_reducible repeat (first | apply Kd.N_alloc | apply Kd.N_drewN | apply Kd.N_drew)); exact Kd.N_mono (Kd.N_far (p := ⟨gb307, 1, none⟩) (Kd.N_mono HO322.out (fun k_ hk => (⟨hk, hk.2.2.2.1⟩ : _ ∧ k_ ≠ gb307))) (fun _ hk => hk.2) (.slice Ao62 y320.length co62)) (fun _ hk => ⟨hk.1.1, ⟨hk.1.2.1, ⟨hk.1.2.2.1, hk.1.2.2.2.1⟩⟩⟩)⟩, ⟨(bf1_ NB300_307 (bkx_ BK300.out))⟩, ⟨by (with_reducible repeat (first | refine blk_drewN ?_ _ | refine blk_drew ?_ | refine blk_alloc ?_ _)); refine blk_put (cs := #[.int .i64 a0, u308001]) ?_ 1 _ rfl; (with_reducible repeat (first | refine blk_drewN ?_ _ | refine blk_drew ?_ | refine blk_alloc ?_ _)); exact BK307.out⟩, ⟨bb_⟩⟩
         ·rw [if_neg c54] at H
          exact absurd H (by simp)
    ·rw [if_neg c13] at H
     exact absurd H (by simp)
   ·rw [if_neg c12] at H
    have c12b0 : decide (x7_1 < (t304.length : Int)) = false := decide_eq_false c12
    clear c12
    simp only [Option.some.injEq, Prod.mk.injEq] at H
    obtain ⟨rfl, rfl⟩ := H
    obtain ⟨Ao64, co64, eo64⟩ := Kd.N_slice HO_5.out
    subst eo64
    have hnb65 := NB307_300.out
    have hnc65 := NB300_307.out
    obtain ⟨hcz66_0, hcz66_1, hfz66_0, hfz66_1⟩ := b2_ BK307
    obtain ⟨hcz67_0, hcz67_1, hfz67_0, hfz67_1⟩ := b2_ BK300
    obtain ⟨Ao68, co68, eo68⟩ := Kd.N_slice HO_308001.out
    subst eo68
    go_wp2
    refine bodyPost_ret (results_cell_row rfl _ _ gb300 40 #[.int .i64 a0, .slice Ao68 x308001_1.length co68] (0, 0) _ rfl (bp2_ (bkx_ BK300.out)) Try.underlying40 rfl (by kernel_rfl)) rfl ?_
    exact ⟨_, by first | rfl | (simp [errW_none, errW_some] <;> rfl) | (simp [*, errW_none, errW_some] <;> rfl), by (with_reducible repeat (first | apply Kd.N_alloc | apply Kd.N_drewN | apply Kd.N_drew)); exact Kd.N_mono (Kd.N_far (p := ⟨gb300, 1, none⟩) (Kd.N_far (p := ⟨gb300, 0, none⟩) (Kd.N_mono HO_308001.out (fun k_ hk => (⟨hk, hk.2.2.1⟩ : _ ∧ k_ ≠ gb300))) (fun _ hk => hk.2) (.int .i64 a0)) (fun _ hk => hk.2) (.slice Ao68 x308001_1.length co68)) (fun _ hk => hk.1.1), by repeat (first | (with_reducible first | exact HB.out | apply below_alloc | apply pw_below_drewN | apply below_drew1 | refine below_set ?_ GE300.out | refine below_set ?_ GE307.out) | exact HB.out)⟩

end Go.Proofs.Ytapgfamppnhnmaa.PFnExactChangeOk
