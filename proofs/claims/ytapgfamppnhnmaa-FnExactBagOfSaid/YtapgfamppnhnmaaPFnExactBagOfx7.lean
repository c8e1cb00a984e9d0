-- WRITTEN BY xprint.py, a program of this session over the kit's printer: by nobody's hand
-- PRESSED
import Derived.Test.YtapgfamppnhnmaaSortC
import Derived.Test.YtapgfamppnhnmaaPress
import Derived.Test.YtapgfamppnhnmaaPFnExactBagOfx0
import Derived.Test.YtapgfamppnhnmaaPFnExactBagOfx5
import Derived.Test.YtapgfamppnhnmaaPFnExactBagOfx6
namespace Go.Proofs.Ytapgfamppnhnmaa.PFnExactBagOf
open Go.RowKit Go.Proofs.YtapgfamppnhnmaaW.PrintWords Go.Proofs.YtapgfamppnhnmaaW.PrintLast Go.Proofs.YtapgfamppnhnmaaW.PrintMore
attribute [local go_sem] max2_int min2_int max_two min_two max_three min_three max_four min_four   -- for this text's walks alone
set_option linter.unusedVariables false
set_option linter.unusedSimpArgs false

/-! ### impl_gathered: function 46 -/
/-- What SortStableFunc makes of a row: each put behind all that it is not below. -/
def impl_Counted_78.f (k : Nat) (l : List S74) : Option (List S74) := if l.length < 2305843009213693952 ∧ (z74 :: l).all (fun x => (z74 :: l).all fun y => (impl_CompareRow.f k x.f0 y.f0).isSome) = true then some ((Go.Proofs.YtapgfamppnhnmaaStable.stable (Go.Proofs.YtapgfamppnhnmaaSort.ltC fun i j => (impl_CompareRow.f k (l.getD i z74).f0 (l.getD j z74).f0).getD 0) l.length (Array.range l.length)).toList.map fun i => l.getD i z74) else none
theorem impl_Counted_78.calls (k : Nat) {b_ : Nat} {ok : Nat → Prop} {A : Option Addr} {c : Nat} {l : List S74} {w : World} (hN : Kd.N k74 74 w b_ ok (.slice A l.length c) l) (r : List S74) (h : impl_Counted_78.f k l = some r) :
    Calls Try.prog 78 #[.slice A l.length c, .func (.func 79) #[] #[]] w fun e w' => e = .returned (.tuple #[]) ∧ Kd.N k74 74 w' b_ ok (.slice A l.length c) r ∧ w.grownBy w' (.slice A l.length c : Value).ownBlock := by
  unfold impl_Counted_78.f at h
  split at h
  · rename_i hc
    obtain rfl := Option.some.inj h
    have hm : ∀ i, l.getD i z74 ∈ z74 :: l := fun i => by
      rw [List.getD_eq_getElem?_getD]
      cases hi : l[i]? with
      | none => exact List.mem_cons_self
      | some x => exact List.mem_cons_of_mem _ (List.mem_of_getElem? hi)
    refine Go.Proofs.YtapgfamppnhnmaaSort.sorted rfl hN 79 (enters_of Try.func79 (by kernel_rfl) rfl) _ ?_ hc.1
    intro W x y cx cy hx hy
    obtain ⟨Ax, ux, rfl, lx, gx⟩ := k74_openF hx
    obtain ⟨Ay, uy, rfl, ly, gy⟩ := k74_openF hy
    have hs := List.all_eq_true.1 (List.all_eq_true.1 hc.2 _ (hm x)) _ (hm y)
    obtain ⟨v, hv⟩ := Option.isSome_iff_exists.1 hs
    have hd : (impl_CompareRow.f k (l.getD x z74).f0 (l.getD y z74).f0).getD 0 = v := by rw [hv]; rfl
    simp only [hd]
    exact impl_gathered_1.calls k Ax ux (l.getD x z74).f0 (l.getD x z74).f1 Ay uy (l.getD y z74).f0 (l.getD y z74).f1 v W (Kd.F_now gx) lx (Kd.F_now gy) ly (by unfold impl_gathered_1.f; rw [hv]; rfl)
  · cases h
theorem N_Vs {α : Type} {d : Kd α} {e : Nat} {W : World} {b_ : Nat} {ok : Nat → Prop} {v : Value} {xs : List α} (h : Kd.N d e W b_ ok v xs) : Kd.V d e W b_ ok v xs := Kd.N_V h
mutual
def impl_gathered.l0 : Nat → List (S74) → Int → Int → List (S74) → Option (Int × (List (S74)))
 | 0, _, _, _, _ => none
 | k + 1, x5, x7, x190000, x190001 => if x7 < (x5.length : Int) then (if 0 ≤ x7 then ((impl_Value_81.f ((rd_T74 x5 x7).f0)).bind fun t191 => (impl_gathered.l1 k x5 x7 x7 x190000 x190001 t191 0)) else (none)) else (some (x190000, x190001))
def impl_gathered.l1 : Nat → List (S74) → Int → Int → Int → List (S74) → List (S25) → Int → Option (Int × (List (S74)))
 | 0, _, _, _, _, _, _, _ => none
 | k + 1, x5, x7, x9, x190000, x190001, x195000, x195001 => if x7 < (x5.length : Int) then (if 0 ≤ x7 then (if 0 ≤ x9 then (if x9 < (x5.length : Int) then ((impl_CompareRow.f k ((rd_T74 x5 x7).f0) ((rd_T74 x5 x9).f0)).bind fun t197 => (if t197 = 0 then (impl_gathered.l1 k x5 (wrap64 (x7 + 1)) x9 x190000 x190001 x195000 (wrap64 (x195001 + ((rd_T74 x5 x7).f1)))) else (if x195001 = 0 then (impl_gathered.l0 k x5 x7 x190000 x190001) else (if x190001.length < 4398046511104 then (impl_gathered.l0 k x5 x7 x190000 (x190001 ++ [(⟨x195000, x195001⟩ : S74)])) else (none))))) else (none)) else (none)) else (none)) else (if x195001 = 0 then (impl_gathered.l0 k x5 x7 x190000 x190001) else (if x190001.length < 4398046511104 then (impl_gathered.l0 k x5 x7 x190000 (x190001 ++ [(⟨x195000, x195001⟩ : S74)])) else (none)))
end
def impl_gathered.f (k : Nat) (a0 : Int) (l1 : List (S74)) : Option (Int × (List (S74))) := (impl_Counted_77.f l1).bind fun t183 => ((impl_Counted_78.f k t183).bind fun t186 => (impl_gathered.l0 k t186 0 a0 ([] : List (S74))))
def impl_gathered.T8 : Bool × List (List Nat × List Nat) := (true, [([], []), ([], []), ([1], [1]), ([0, 2], [0, 2]), ([3], [3]), ([4], [4]), ([4], [4]), ([5, 6, 4], [4, 5, 6]), ([7, 4], [4, 7]), ([8, 4], [4, 8]), ([4], [4]), ([4], [4]), ([10, 11, 4], [4, 10, 11]), ([12, 4], [4, 12]), ([13, 4], [4, 13]), ([9, 14, 4, 4], [4, 9, 14]), ([15, 4], [4, 15]), ([4, 16], [4, 16])])
def impl_gathered.B8 : List Nat := [0, 0, 2, 7, 15, 31, 31, 127, 255, 511, 31, 31, 3103, 7199, 15391, 32767, 65535, 131071]
theorem impl_gathered.tab8 : rtab .any (opsOf Try.f46 8) = impl_gathered.T8 := by kernel_rfl
theorem impl_gathered.bits8 : waitsOk impl_gathered.T8.2 impl_gathered.B8 = true := by kernel_rfl
def impl_gathered.T10 : Bool × List (List Nat × List Nat) := (true, [([], []), ([0], [0]), ([], []), ([], []), ([2, 3], [2, 3]), ([4], [4]), ([5], [5]), ([1, 6], [1, 6]), ([0, 1, 2, 3, 4, 5, 6, 7], []), ([8, 7, 0, 1, 2, 3, 4, 5, 6, 7], [7, 8])])
def impl_gathered.B10 : List Nat := [0, 1, 0, 0, 12, 28, 60, 127, 255, 511]
theorem impl_gathered.tab10 : rtab .any (opsOf Try.f46 10) = impl_gathered.T10 := by kernel_rfl
theorem impl_gathered.bits10 : waitsOk impl_gathered.T10.2 impl_gathered.B10 = true := by kernel_rfl
set_option maxHeartbeats 8000000 in
set_option maxRecDepth 100000 in
theorem impl_gathered.calls (k : Nat) (a0 : Int) (A1 : Option Addr) (c1 : Nat) (l1 : List (S74)) (r1 : Int) (r2 : List (S74)) (w : World) (hr1 : Kd.C k74 w A1 l1.length l1) (hc1 : l1.length ≤ c1) (h : impl_gathered.f k a0 l1 = some (r1, r2)) :
  Calls Try.prog 46 #[.int .i64 a0, .slice A1 l1.length c1] w fun e w' => ∃ v1_ : Value, e = .returned (.agg #[.int .i64 r1, v1_]) ∧ Kd.S k74 74 w' w.heap.size (fun _ => True) v1_ r2 ∧ Below w.heap.size w w' := by
 have hu40 := Try.underlying40
 have hu74 := Try.underlying74
 have HR1 := Aside0.mk hr1
 have HC1 := Aside0.mk hc1
 clear hr1 hc1
 have HB := Aside0.mk (Below.refl w.heap.size w)
 have H : ((impl_Counted_77.f l1).bind fun t183 => ((impl_Counted_78.f k t183).bind fun t186 => (impl_gathered.l0 k t186 0 a0 ([] : List (S74))))) = some (r1, r2) := h
 clear h
 replace H := Option.bind_eq_some_iff.mp H
 obtain ⟨t183, A30, H⟩ := H
 replace H : ((impl_Counted_78.f k t183).bind fun t186 => (impl_gathered.l0 k t186 0 a0 ([] : List (S74)))) = some (r1, r2) := H
 have A3 := Aside0.mk A30
 clear A30
 replace H := Option.bind_eq_some_iff.mp H
 obtain ⟨t186, A40, H⟩ := H
 replace H : (impl_gathered.l0 k t186 0 a0 ([] : List (S74))) = some (r1, r2) := H
 have A4 := Aside0.mk A40
 clear A40
 have H' := Aside0.mk H
 clear H
 go_enter Try.func46, Try.ntmps46
 go_wp2_with (first | ((with_reducible refine gate_dst (N := 4) rfl ?_); refine bx_ 4 #[.int .i64 0, .slice none 0 0] 40 ?_; intro gb182 hg w5 hbox hb; have BK182 := Aside0.mk (hbox); have GW182 := gw_ hg; have GE182 := gw_ hg; replace HB := bs_ hb; clear hb hbox hg) | ((with_reducible refine gate_callee (f := 77) rfl ?_); refine gsL_ (some 11) Try.func77 #[.slice A1 l1.length c1] ?_; (with_reducible refine (impl_Counted_77.callsN (fun k_ => k_ < w.heap.size) _ _ l1 t183 _ ?side1 A3.out).mono ?_); (case side1 => exact Kd.V_mk HC1.out (Kd.F_below (Kd.C_F k74_heap HR1.out) bb_)); rintro e w6 ⟨v184, rfl, ho0, hb⟩; have hoN := ho0; replace ho0 := N_Vs hoN; refine ⟨_, rfl, ?_⟩; have HO185 := Aside0.mk (Kd.V_lower (Kd.V_mono (ok' := fun k_ => k_ ≠ gb182) ho0 (fun k_ hk_ => Or.elim hk_ (fun hs_ => fun e_ => Nat.not_le.2 hs_ (by rw [e_]; exact GW182.out)) (fun hn_ => (Kd.freshB (g := gb182) (o := .cells #[.int .i64 0, .slice none 0 0] 40 (0, 0)) (bkx_ BK182.out) k_ hn_)))) (below_size bb_)); have HN_ := Aside0.mk (Kd.N_lower (Kd.N_mono (ok' := fun k_ => k_ ≠ gb182) hoN (fun k_ hk_ => Or.elim hk_ (fun hs_ => fun e_ => Nat.not_le.2 hs_ (by rw [e_]; exact GW182.out)) (fun hn_ => (Kd.freshB (g := gb182) (o := .cells #[.int .i64 0, .slice none 0 0] 40 (0, 0)) (bkx_ BK182.out) k_ hn_)))) (below_size bb_)); replace BK182 := bkb_ BK182 hb; replace HB := bs_ hb; (try clear hb); (try clear hb2); (try clear hk); (try clear hi); (try clear ho0); (try clear hoN); obtain ⟨Ao7, co7, eo7⟩ := Kd.V_slice HO185.out; subst eo7) | ((with_reducible refine gate_callee (f := 78) rfl ?_); refine gsL_ (some 13) Try.func78 #[.slice Ao7 t183.length co7, .func (.func 79) #[] #[]] ?_; refine (impl_Counted_78.calls k HN_.out t186 A4.out).mono ?_; rintro e w8 ⟨rfl, hN_, hgr_⟩; refine ⟨_, rfl, ?_⟩; have n0_ := Aside0.mk (Kd.V_nil k74 74 w8 w.heap.size (fun k_ => k_ ≠ gb182)); have n2_ := Aside0.mk (Kd.N_V (base' := w.heap.size) hN_); have n3_ := Aside0.mk (blk_grown (g := gb182) (o := .cells #[.int .i64 0, .slice none 0 0] 40 (0, 0)) BK182.out hgr_ (Kd.N_ne HN_.out BK182.out (by decide))); have n4_ := Aside0.mk (Below.grown bb_ hgr_ (below_size bb_) (fun k_ e_ => Kd.N_base HN_.out k_ e_)); clear HO185 BK182 HB HN_; clear hgr_ hN_; have HO185 := n0_; have HO188 := n2_; have BK182 := n3_; have HB := n4_; clear n0_ n2_ n3_ n4_; generalize (.slice Ao7 t183.length co7 : Value) = v187 at *) | ((with_reducible refine gate_dst (N := 6) rfl ?_); refine bx_ 6 #[.int .i64 0, .slice none 0 0] 40 ?_; intro gb189 hg w9 hbox hb; have BK189 := Aside0.mk (hbox); have GW189 := gw_ hg; have GE189 := gw_ hg; have NB182_189 := nl_ hg BK182; have NB189_182 := ng_ hg BK182; replace HO185 := Aside0.mk (Kd.V_below (Kd.V_elderB (by (with_reducible repeat (first | apply Kd.V_alloc | apply Kd.V_drewN | apply Kd.V_drew)); exact HO185.out) gb189 (Nat.le_of_eq hg.symm)) hb); replace HO188 := Aside0.mk (Kd.V_below (Kd.V_elderB (by (with_reducible repeat (first | apply Kd.V_alloc | apply Kd.V_drewN | apply Kd.V_drew)); exact HO188.out) gb189 (Nat.le_of_eq hg.symm)) hb); replace BK182 := bkb_ BK182 hb; replace HB := bs_ hb; clear hb hbox hg; have hnb10 := NB189_182.out; have hnc10 := NB182_189.out; obtain ⟨hcz11_0, hcz11_1, hfz11_0, hfz11_1⟩ := b2_ BK189))
 go_loopg [7] k (fun kq v7 w' => ∃ (x7_1 : Int) (x190001_1 : List (S74)) (u190001 : Value), v7 = .int .i64 x7_1 ∧ Aside0 (impl_gathered.l0 kq t186 x7_1 a0 x190001_1 = some (r1, r2)) ∧ Aside0 (kq ≤ k) ∧ Aside0 (Kd.V k74 74 w' w.heap.size (fun k_ => some k_ ≠ (u190001 : Value).ownBlock ∧ k_ ≠ gb182 ∧ k_ ≠ gb189) v187 t186) ∧ Aside0 (Kd.S k74 74 w' w.heap.size (fun _ => True) u190001 x190001_1) ∧ Aside0 (w'.heap[gb182]? = some (.cells #[.int .i64 0, (.slice none 0 0)] 40 (0, 0))) ∧ Aside0 (w'.heap[gb189]? = some (.cells #[.int .i64 a0, u190001] 40 (0, 0))) ∧ Aside0 (Below w.heap.size w w'))
 case atStart => exact ⟨(0), (([] : List (S74))), (.slice none 0 0), rs_, H', ⟨Nat.le_refl _⟩, ⟨by (with_reducible repeat (first | apply Kd.V_alloc | apply Kd.V_drewN | apply Kd.V_drew)); exact Kd.V_mono (Kd.V_far (p := ⟨gb189, 1, none⟩) (Kd.V_far (p := ⟨gb189, 0, none⟩) (Kd.V_mono HO188.out (fun k_ hk => (⟨hk, hk.2⟩ : _ ∧ k_ ≠ gb189))) (fun _ hk => hk.2) (.int .i64 a0)) (fun _ hk => hk.2) (.slice none 0 0)) (fun _ hk => ⟨(by simp [Value.ownBlock]), ⟨hk.1.1, hk.1.2⟩⟩)⟩, ⟨by first | exact Kd.S_nil _ _ _ _ _ | exact Kd.N_nil _ _ _ _ _ | exact Kd.V_nil _ _ _ _ _ | exact Kd.Q_nil _ _ _ _ _ | exact Kd.R_nil _ _ _ _ _⟩, ⟨(bf2_ NB182_189 (bkx_ BK182.out))⟩, ⟨(bp2_ (bkx_ BK189.out))⟩, ⟨bb_⟩⟩
 case round =>
  clear H'
  try clear c1
  try clear p2
  try clear c4
  try clear c7
  try clear c10
  try clear hcz11_0
  try clear hcz11_1
  try clear hfz11_0
  try clear hfz11_1
  obtain ⟨x7_1, x190001_1, u190001, rfl, HA, HK1, HO_5, HO_190001, BK182, BK189, HB⟩ := hrel
  cases gk with
  | zero => exact absurd HA.out (by simp [impl_gathered.l0])
  | succ k1 =>
   have H := HA.out
   clear HA
   simp only [impl_gathered.l0] at H
   by_cases c12 : x7_1 < (t186.length : Int)
   ·rw [if_pos c12] at H
    have c12b0 : decide (x7_1 < (t186.length : Int)) = true := decide_eq_true c12
    clear c12
    by_cases c13 : 0 ≤ x7_1
    ·rw [if_pos c13] at H
     have c13b0 : decide (0 ≤ x7_1) = true := decide_eq_true c13
     clear c13
     replace H := Option.bind_eq_some_iff.mp H
     obtain ⟨t191, A140, H⟩ := H
     replace H : (impl_gathered.l1 k1 t186 x7_1 x7_1 a0 x190001_1 t191 0) = some (r1, r2) := H
     have A14 := Aside0.mk A140
     clear A140
     have H' := Aside0.mk H
     clear H
     obtain ⟨Ao15, co15, eo15⟩ := Kd.V_slice HO_5.out
     subst eo15
     have p190 : 0 ≤ (x7_1 : Int) := od_
     have q190 : x7_1 < (t186.length : Int) := od_
     obtain ⟨ad190, A190_0, c190_0, e190, hx190_0, hx190_1, hl190_0, hi190_0⟩ := at_T74 (Kd.V_reads' HO_5.out).2.2 x7_1 p190 q190
     cases e190
     obtain ⟨ce190, hce190, hMe190, hcc190⟩ := Kd.V_get HO_5.out z74 x7_1 p190 (by first | exact q190 | exact od_ | (have e_ := (Kd.V_reads' HO_5.out).1; omega))
     obtain ⟨ua190_0, uc190_0, rfl, ul190_0, ge190_0⟩ := k74_openF hMe190
     have hv190_0 := hcc190 0 _ rfl
     rw [Nat.add_zero] at hv190_0
     replace hv190_0 := Option.some.inj (hv190_0.symm.trans hx190_0)
     injection hv190_0 with hva_ hvn_ hvc_
     rw [hva_] at ge190_0
     rw [hvc_] at ul190_0
     have HL190_0 := Aside0.mk (show Kd.V k25 25 _ w.heap.size _ _ ((rd_T74 t186 x7_1).f0) from Kd.V_mk ul190_0 ge190_0)
     clear hva_ hvn_ hvc_ ge190_0 ul190_0
     clear hcc190 hce190
     have HR190_0 := Aside0.mk hi190_0
     have HC190_0 := Aside0.mk hl190_0
     clear hi190_0 hl190_0
     replace p190 := eq_true p190
     replace q190 := eq_true q190
     go_wp2_with (first | ((with_reducible refine gate_callee (f := 81) rfl ?_); refine gsL_ (some 25) Try.func81 #[.slice A190_0 ((rd_T74 t186 x7_1).f0).length c190_0] ?_; (with_reducible refine (impl_Value_81.calls _ _ ((rd_T74 t186 x7_1).f0) t191 _ ?side1 ?side2 A14.out).mono ?_); (case side1 => exact ck_ (by repeat (first | (with_reducible exact HR190_0.out) | (with_reducible refine Kd.C_alloc ?_ _) | (with_reducible refine Kd.C_drewN ?_ _) | (with_reducible refine Kd.C_drew ?_) | exact HR190_0.out))); (case side2 => exact HC190_0.out); rintro e w16 ⟨v192, rfl, ho0, hb⟩; refine ⟨_, rfl, ?_⟩; have HO193 := Aside0.mk (Kd.R_lower ho0 (below_size bb_)); replace HO_5 := Aside0.mk (Kd.V_elder' (by (with_reducible repeat (first | apply Kd.V_alloc | apply Kd.V_drewN | apply Kd.V_drew)); exact HO_5.out) (Kd.R_base ho0) hb); replace HO_190001 := Aside0.mk (Kd.S_elder' (sk_ HO_190001.out) (Kd.R_base ho0) hb); replace HL190_0 := Aside0.mk (Kd.V_elder' (by (with_reducible repeat (first | apply Kd.V_alloc | apply Kd.V_drewN | apply Kd.V_drew)); exact HL190_0.out) (Kd.R_base ho0) hb); replace BK182 := bkb_ BK182 hb; replace BK189 := bkb_ BK189 hb; replace HR190_0 := Aside0.mk (Kd.C_below (by repeat (first | (with_reducible exact HR190_0.out) | (with_reducible refine Kd.C_alloc ?_ _) | (with_reducible refine Kd.C_drewN ?_ _) | (with_reducible refine Kd.C_drew ?_) | exact HR190_0.out)) hb); replace HB := bs_ hb; (try clear hb); (try clear hb2); (try clear hk); (try clear hi); (try clear ho0); obtain ⟨Ao17, co17, eo17⟩ := Kd.R_slice HO193.out; subst eo17) | ((with_reducible refine gate_dst (N := 8) rfl ?_); refine bx_ 8 #[.slice none 0 0, .int .i64 0] 74 ?_; intro gb194 hg w18 hbox hb; have BK194 := Aside0.mk (hbox); have GW194 := gw_ hg; have GE194 := gw_ hg; have NB182_194 := nl_ hg BK182; have NB194_182 := ng_ hg BK182; have NB189_194 := nl_ hg BK189; have NB194_189 := ng_ hg BK189; replace HO_5 := Aside0.mk (Kd.V_below (Kd.V_elderB (by (with_reducible repeat (first | apply Kd.V_alloc | apply Kd.V_drewN | apply Kd.V_drew)); exact HO_5.out) gb194 (Nat.le_of_eq hg.symm)) hb); replace HO_190001 := Aside0.mk (Kd.S_below (Kd.S_elderB (sk_ HO_190001.out) gb194 (Nat.le_of_eq hg.symm)) hb); replace HL190_0 := Aside0.mk (Kd.V_below (Kd.V_elderB (by (with_reducible repeat (first | apply Kd.V_alloc | apply Kd.V_drewN | apply Kd.V_drew)); exact HL190_0.out) gb194 (Nat.le_of_eq hg.symm)) hb); replace HO193 := Aside0.mk (Kd.R_below (rk_ HO193.out) hb); replace BK182 := bkb_ BK182 hb; replace BK189 := bkb_ BK189 hb; replace HR190_0 := Aside0.mk (Kd.C_below (by repeat (first | (with_reducible exact HR190_0.out) | (with_reducible refine Kd.C_alloc ?_ _) | (with_reducible refine Kd.C_drewN ?_ _) | (with_reducible refine Kd.C_drew ?_) | exact HR190_0.out)) hb); replace HB := bs_ hb; clear hb hbox hg; have hnb19 := NB194_182.out; have hnc19 := NB182_194.out; have hnb20 := NB194_189.out; have hnc20 := NB189_194.out; obtain ⟨hcz21_0, hcz21_1, hfz21_0, hfz21_1⟩ := b2_ BK194))
     go_loopg [7] k1 (fun kq v7 w' => ∃ (x7_2 : Int) (x195001_2 : Int), v7 = .int .i64 x7_2 ∧ Aside0 (impl_gathered.l1 kq t186 x7_2 x7_1 a0 x190001_1 t191 x195001_2 = some (r1, r2)) ∧ Aside0 (kq ≤ k1) ∧ Aside0 (Kd.V k74 74 w' w.heap.size (fun k_ => some k_ ≠ (u190001 : Value).ownBlock ∧ some k_ ≠ ((.slice Ao17 t191.length co17) : Value).ownBlock ∧ k_ ≠ gb182 ∧ k_ ≠ gb189 ∧ k_ ≠ gb194) (.slice (some ad190) t186.length co15) t186) ∧ Aside0 (Kd.S k74 74 w' w.heap.size (fun k_ => some k_ ≠ ((.slice Ao17 t191.length co17) : Value).ownBlock ∧ k_ ≠ gb194) u190001 x190001_1) ∧ Aside0 (Kd.R k25 25 w' w.heap.size (fun _ => True) (.slice Ao17 t191.length co17) t191) ∧ Aside0 (w'.heap[gb182]? = some (.cells #[.int .i64 0, (.slice none 0 0)] 40 (0, 0))) ∧ Aside0 (w'.heap[gb189]? = some (.cells #[.int .i64 a0, u190001] 40 (0, 0))) ∧ Aside0 (w'.heap[gb194]? = some (.cells #[(.slice Ao17 t191.length co17), .int .i64 x195001_2] 74 (0, 0))) ∧ Aside0 (Below w.heap.size w w'))
     case atStart => exact ⟨(x7_1), (0), rs_, H', ⟨Nat.le_refl _⟩, ⟨by (with_reducible repeat (first | apply Kd.V_alloc | apply Kd.V_drewN | apply Kd.V_drew)); exact Kd.V_mono (Kd.V_far (p := ⟨gb194, 1, none⟩) (Kd.V_far (p := ⟨gb194, 0, none⟩) (Kd.V_mono HO_5.out (fun k_ hk => (⟨hk, hk.2⟩ : _ ∧ k_ ≠ gb194))) (fun _ hk => hk.2) (.slice Ao17 t191.length co17)) (fun _ hk => hk.2) (.int .i64 0)) (fun _ hk => ⟨hk.1.1.1.1, ⟨hk.1.1.2, ⟨hk.1.1.1.2.1, ⟨hk.1.1.1.2.2, hk.1.2⟩⟩⟩⟩)⟩, ⟨by (with_reducible repeat (first | apply Kd.S_alloc | apply Kd.S_drewN | apply Kd.S_drew)); exact Kd.S_mono (Kd.S_far (p := ⟨gb194, 1, none⟩) (Kd.S_far (p := ⟨gb194, 0, none⟩) (Kd.S_mono HO_190001.out (fun k_ hk => (⟨hk, hk.2⟩ : _ ∧ k_ ≠ gb194))) (fun _ hk => hk.2) (.slice Ao17 t191.length co17)) (fun _ hk => hk.2) (.int .i64 0)) (fun _ hk => ⟨hk.1.1.2, hk.1.2⟩)⟩, ⟨by (with_reducible repeat (first | apply Kd.R_alloc | apply Kd.R_drewN | apply Kd.R_drew)); exact Kd.R_mono (Kd.R_far (p := ⟨gb194, 1, none⟩) (Kd.R_far (p := ⟨gb194, 0, none⟩) (Kd.R_types HO193.out BK194.out (by decide)) (fun _ hk => hk.2) (.slice Ao17 t191.length co17)) (fun _ hk => hk.2) (.int .i64 0)) (fun _ hk => trivial)⟩, ⟨(bf2_ NB182_194 (bkx_ BK182.out))⟩, ⟨(bf2_ NB189_194 (bkx_ BK189.out))⟩, ⟨(bp2_ (bkx_ BK194.out))⟩, ⟨bb_⟩⟩
     case round =>
      clear H'
      try clear c1
      try clear p1
      try clear q1
      try clear hx1
      try clear c2
      try clear p2
      try clear c4
      try clear c7
      try clear c8
      try clear c10
      try clear c12
      try clear c12b0
      try clear c13
      try clear c13b0
      try clear c19
      try clear p19
      try clear q19
      try clear hx19
      try clear c20
      try clear hcz11_0
      try clear hcz11_1
      try clear hcz21_0
      try clear hcz21_1
      try clear hfz11_0
      try clear hfz11_1
      try clear hfz21_0
      try clear hfz21_1
      try clear hx190_0
      try clear hx190_1
      try clear p190
      try clear p2
      try clear q190
      obtain ⟨x7_2, x195001_2, rfl, HA, HK2, HO_5, HO_190001, HO_195000, BK182, BK189, BK194, HB⟩ := hrel
      cases gk with
      | zero => exact absurd HA.out (by simp [impl_gathered.l1])
      | succ k2 =>
       have H := HA.out
       clear HA
       simp only [impl_gathered.l1] at H
       by_cases c22 : x7_2 < (t186.length : Int)
       ·rw [if_pos c22] at H
        have c22b0 : decide (x7_2 < (t186.length : Int)) = true := decide_eq_true c22
        clear c22
        by_cases c23 : 0 ≤ x7_2
        ·rw [if_pos c23] at H
         have c23b0 : decide (0 ≤ x7_2) = true := decide_eq_true c23
         clear c23
         by_cases c24 : 0 ≤ x7_1
         ·rw [if_pos c24] at H
          have c24b0 : decide (0 ≤ x7_1) = true := decide_eq_true c24
          clear c24
          by_cases c25 : x7_1 < (t186.length : Int)
          ·rw [if_pos c25] at H
           have c25b0 : decide (x7_1 < (t186.length : Int)) = true := decide_eq_true c25
           clear c25
           replace H := Option.bind_eq_some_iff.mp H
           obtain ⟨t197, A260, H⟩ := H
           replace H : (if t197 = 0 then (impl_gathered.l1 k2 t186 (wrap64 (x7_2 + 1)) x7_1 a0 x190001_1 t191 (wrap64 (x195001_2 + ((rd_T74 t186 x7_2).f1)))) else (if x195001_2 = 0 then (impl_gathered.l0 k2 t186 x7_2 a0 x190001_1) else (if x190001_1.length < 4398046511104 then (impl_gathered.l0 k2 t186 x7_2 a0 (x190001_1 ++ [(⟨t191, x195001_2⟩ : S74)])) else (none)))) = some (r1, r2) := H
           have A26 := Aside0.mk A260
           clear A260
           by_cases c27 : t197 = 0
           ·rw [if_pos c27] at H
            have c27b0 : (t197 == 0) = true := beq_iff_eq.mpr c27
            have c27b1 : (t197 != 0) = false := bne_eq_false_iff_eq.mpr c27
            clear c27
            have H' := Aside0.mk H
            clear H
            try go_wp2
            replace HO_5 := Aside0.mk (Kd.V_drew HO_5.out)
            replace HO_190001 := Aside0.mk (Kd.S_drew HO_190001.out)
            replace HO_195000 := Aside0.mk (Kd.R_drew HO_195000.out)
            replace BK182 := Aside0.mk (blk_drew BK182.out)
            replace BK189 := Aside0.mk (blk_drew BK189.out)
            replace BK194 := Aside0.mk (blk_drew BK194.out)
            replace HB := Aside0.mk (below_drew1 HB.out)
            have p195 : 0 ≤ (x7_2 : Int) := od_
            have q195 : x7_2 < (t186.length : Int) := od_
            obtain ⟨ad195, A195_0, c195_0, e195, hx195_0, hx195_1, hl195_0, hi195_0⟩ := at_T74 (Kd.V_reads' HO_5.out).2.2 x7_2 p195 q195
            obtain rfl : ad190 = ad195 := (by injection e195)
            obtain ⟨ce195, hce195, hMe195, hcc195⟩ := Kd.V_get HO_5.out z74 x7_2 p195 (by first | exact q195 | exact od_ | (have e_ := (Kd.V_reads' HO_5.out).1; omega))
            obtain ⟨ua195_0, uc195_0, rfl, ul195_0, ge195_0⟩ := k74_openF hMe195
            have hv195_0 := hcc195 0 _ rfl
            rw [Nat.add_zero] at hv195_0
            replace hv195_0 := Option.some.inj (hv195_0.symm.trans hx195_0)
            injection hv195_0 with hva_ hvn_ hvc_
            rw [hva_] at ge195_0
            rw [hvc_] at ul195_0
            have HL195_0 := Aside0.mk (show Kd.V k25 25 _ w.heap.size _ _ ((rd_T74 t186 x7_2).f0) from Kd.V_mk ul195_0 ge195_0)
            clear hva_ hvn_ hvc_ ge195_0 ul195_0
            clear hcc195 hce195
            have HR195_0 := Aside0.mk hi195_0
            have HC195_0 := Aside0.mk hl195_0
            clear hi195_0 hl195_0
            replace p195 := eq_true p195
            replace q195 := eq_true q195
            have p196 : 0 ≤ (x7_1 : Int) := od_
            have q196 : x7_1 < (t186.length : Int) := od_
            obtain ⟨ad196, A196_0, c196_0, e196, hx196_0, hx196_1, hl196_0, hi196_0⟩ := at_T74 (Kd.V_reads' HO_5.out).2.2 x7_1 p196 q196
            obtain rfl : ad190 = ad196 := (by injection e196)
            obtain ⟨ce196, hce196, hMe196, hcc196⟩ := Kd.V_get HO_5.out z74 x7_1 p196 (by first | exact q196 | exact od_ | (have e_ := (Kd.V_reads' HO_5.out).1; omega))
            obtain ⟨ua196_0, uc196_0, rfl, ul196_0, ge196_0⟩ := k74_openF hMe196
            have hv196_0 := hcc196 0 _ rfl
            rw [Nat.add_zero] at hv196_0
            replace hv196_0 := Option.some.inj (hv196_0.symm.trans hx196_0)
            injection hv196_0 with hva_ hvn_ hvc_
            rw [hva_] at ge196_0
            rw [hvc_] at ul196_0
            have HL196_0 := Aside0.mk (show Kd.V k25 25 _ w.heap.size _ _ ((rd_T74 t186 x7_1).f0) from Kd.V_mk ul196_0 ge196_0)
            clear hva_ hvn_ hvc_ ge196_0 ul196_0
            clear hcc196 hce196
            have HR196_0 := Aside0.mk hi196_0
            have HC196_0 := Aside0.mk hl196_0
            clear hi196_0 hl196_0
            replace p196 := eq_true p196
            replace q196 := eq_true q196
            refine start_ (n := 18) (S := fun w' => w'.cell? (ad190.add ((x7_2).toNat * 2)) = some (.slice A195_0 ((rd_T74 t186 x7_2).f0).length c195_0) ∧ w'.cell? ⟨(ad190.add ((x7_2).toNat * 2)).block, (ad190.add ((x7_2).toNat * 2)).off + 1, none⟩ = some (.int .i64 ((rd_T74 t186 x7_2).f1)) ∧ w'.cell? (ad190.add ((x7_1).toNat * 2)) = some (.slice A196_0 ((rd_T74 t186 x7_1).f0).length c196_0) ∧ w'.cell? ⟨(ad190.add ((x7_1).toNat * 2)).block, (ad190.add ((x7_1).toNat * 2)).off + 1, none⟩ = some (.int .i64 ((rd_T74 t186 x7_1).f1))) (ds := []) (tf 0 18) (by kernel_rfl) rfl rfl ⟨hx195_0, hx195_1, hx196_0, hx196_1⟩ (fun hHeld => ?_); refine with_tabW impl_gathered.tab8 impl_gathered.bits8 (fun HT_ HW_ => ?_)
            generalize wr.drew = w28 at HO_5 HO_190001 HO_195000 BK182 BK189 BK194 HB HL195_0 HL196_0 HR195_0 HR196_0 hx195_0 hx195_1 hx196_0 hx196_1 hHeld ⊢
            iterate 9 (refine pl_ ?_)
            refine plx_ 10 #[true, true, true, true, true, true, true, true, true, false, true, false, false, false, false, false, false, false] ?_
            refine plx_ 11 #[true, true, true, true, true, true, true, true, true, false, true, true, false, false, false, false, false, false] ?_
            refine plx_ 12 #[true, true, true, true, true, true, true, true, true, false, true, true, true, false, false, false, false, false] ?_
            refine plx_ 13 #[true, true, true, true, true, true, true, true, true, false, true, true, true, true, false, false, false, false] ?_
            refine tlx_ 9 (tf 14 4) ?_
            refine tl_ ?_
            refine one_ (i := 15) (N := some 43) (tf 16 2) rfl rfl (one_of HT_.out (by kernel_rfl)) (by decide) (fun K hK => ?_)
            refine gs_ Try.func80 #[.slice A195_0 ((rd_T74 t186 x7_2).f0).length c195_0, .slice A196_0 ((rd_T74 t186 x7_1).f0).length c196_0] ?_
            with_reducible refine (impl_CompareRow.calls k2 _ _ ((rd_T74 t186 x7_2).f0) _ _ ((rd_T74 t186 x7_1).f0) t197 _ ?side1 ?side2 ?side3 ?side4 A26.out).mono ?_
            (case side1 => exact ck_ (by repeat (first | (with_reducible exact HR195_0.out) | (with_reducible refine Kd.C_alloc ?_ _) | (with_reducible refine Kd.C_drewN ?_ _) | (with_reducible refine Kd.C_drew ?_) | exact HR195_0.out)))
            (case side2 => exact HC195_0.out)
            (case side3 => exact ck_ (by repeat (first | (with_reducible exact HR196_0.out) | (with_reducible refine Kd.C_alloc ?_ _) | (with_reducible refine Kd.C_drewN ?_ _) | (with_reducible refine Kd.C_drew ?_) | exact HR196_0.out)))
            (case side4 => exact HC196_0.out)
            rintro e w29 ⟨rfl, hb⟩
            have HS0_ := (hb.cell (World.block_lt_of_cell? _ _ (hHeld.1))).trans (hHeld.1)
            have HS1_ := (hb.cell (World.block_lt_of_cell? _ _ (hHeld.2.1))).trans (hHeld.2.1)
            have HS2_ := (hb.cell (World.block_lt_of_cell? _ _ (hHeld.2.2.1))).trans (hHeld.2.2.1)
            have HS3_ := (hb.cell (World.block_lt_of_cell? _ _ (hHeld.2.2.2))).trans (hHeld.2.2.2)
            refine ⟨_, rfl, ?_⟩
            replace HO_5 := Aside0.mk (Kd.V_below (by (with_reducible repeat (first | apply Kd.V_alloc | apply Kd.V_drewN | apply Kd.V_drew)); exact HO_5.out) hb)
            replace HO_190001 := Aside0.mk (Kd.S_below (sk_ HO_190001.out) hb)
            replace HO_195000 := Aside0.mk (Kd.R_below (rk_ HO_195000.out) hb)
            replace HL195_0 := Aside0.mk (Kd.V_below (by (with_reducible repeat (first | apply Kd.V_alloc | apply Kd.V_drewN | apply Kd.V_drew)); exact HL195_0.out) hb)
            replace HL196_0 := Aside0.mk (Kd.V_below (by (with_reducible repeat (first | apply Kd.V_alloc | apply Kd.V_drewN | apply Kd.V_drew)); exact HL196_0.out) hb)
            replace BK182 := bkb_ BK182 hb
            replace BK189 := bkb_ BK189 hb
            replace BK194 := bkb_ BK194 hb
            replace HR195_0 := Aside0.mk (Kd.C_below (by repeat (first | (with_reducible exact HR195_0.out) | (with_reducible refine Kd.C_alloc ?_ _) | (with_reducible refine Kd.C_drewN ?_ _) | (with_reducible refine Kd.C_drew ?_) | exact HR195_0.out)) hb)
            replace HR196_0 := Aside0.mk (Kd.C_below (by repeat (first | (with_reducible exact HR196_0.out) | (with_reducible refine Kd.C_alloc ?_ _) | (with_reducible refine Kd.C_drewN ?_ _) | (with_reducible refine Kd.C_drew ?_) | exact HR196_0.out)) hb)
            replace HB := bs_ hb
            (try clear hb)
            (try clear hb2)
            (try clear hk)
            (try clear hi)
            refine hK.out _ _ ⟨HS0_, HS1_, HS2_, HS3_⟩ (fun hHeld => ?_)
            clear hK K
            refine nm_ ?_
            refine plx_ 16 (tf 17 1) ?_
            refine pl_ ?_
            refine done_ (done_of HT_.out (by kernel_rfl)) ?_
            try go_wp2
            replace HO_5 := Aside0.mk (Kd.V_drew HO_5.out)
            replace HO_190001 := Aside0.mk (Kd.S_drew HO_190001.out)
            replace HO_195000 := Aside0.mk (Kd.R_drew HO_195000.out)
            replace HL195_0 := Aside0.mk (Kd.V_drew HL195_0.out)
            replace HL196_0 := Aside0.mk (Kd.V_drew HL196_0.out)
            replace BK182 := Aside0.mk (blk_drew BK182.out)
            replace BK189 := Aside0.mk (blk_drew BK189.out)
            replace BK194 := Aside0.mk (blk_drew BK194.out)
            replace HR195_0 := Aside0.mk (Kd.C_drew HR195_0.out)
            replace HR196_0 := Aside0.mk (Kd.C_drew HR196_0.out)
            replace HB := Aside0.mk (below_drew1 HB.out)
            have p198 : 0 ≤ (x7_2 : Int) := od_
            have q198 : x7_2 < (t186.length : Int) := od_
            obtain ⟨ad198, A198_0, c198_0, e198, hx198_0, hx198_1, hl198_0, hi198_0⟩ := at_T74 (Kd.V_reads' HO_5.out).2.2 x7_2 p198 q198
            obtain rfl : ad190 = ad198 := (by injection e198)
            obtain ⟨ce198, hce198, hMe198, hcc198⟩ := Kd.V_get HO_5.out z74 x7_2 p198 (by first | exact q198 | exact od_ | (have e_ := (Kd.V_reads' HO_5.out).1; omega))
            obtain ⟨ua198_0, uc198_0, rfl, ul198_0, ge198_0⟩ := k74_openF hMe198
            have hv198_0 := hcc198 0 _ rfl
            rw [Nat.add_zero] at hv198_0
            replace hv198_0 := Option.some.inj (hv198_0.symm.trans hx198_0)
            injection hv198_0 with hva_ hvn_ hvc_
            rw [hva_] at ge198_0
            rw [hvc_] at ul198_0
            have HL198_0 := Aside0.mk (show Kd.V k25 25 _ w.heap.size _ _ ((rd_T74 t186 x7_2).f0) from Kd.V_mk ul198_0 ge198_0)
            clear hva_ hvn_ hvc_ ge198_0 ul198_0
            clear hcc198 hce198
            have HR198_0 := Aside0.mk hi198_0
            have HC198_0 := Aside0.mk hl198_0
            clear hi198_0 hl198_0
            replace p198 := eq_true p198
            replace q198 := eq_true q198
            refine start_ (n := 10) (S := fun w' => w'.cell? ⟨gb194, 0, none⟩ = some (.slice Ao17 t191.length co17) ∧ w'.cell? ⟨gb194, 1, none⟩ = some (.int .i64 x195001_2) ∧ w'.cell? (ad190.add ((x7_2).toNat * 2)) = some (.slice A198_0 ((rd_T74 t186 x7_2).f0).length c198_0) ∧ w'.cell? ⟨(ad190.add ((x7_2).toNat * 2)).block, (ad190.add ((x7_2).toNat * 2)).off + 1, none⟩ = some (.int .i64 ((rd_T74 t186 x7_2).f1))) (ds := [9]) (tf 0 10) (by kernel_rfl) rfl rfl ⟨bc_ BK194 0, bc_ BK194 1, hx198_0, hx198_1⟩ (fun hHeld => ?_); refine with_tabW impl_gathered.tab10 impl_gathered.bits10 (fun HT_ HW_ => ?_)
            generalize w29.drew = w30 at HO_5 HO_190001 HO_195000 HL195_0 HL196_0 BK182 BK189 BK194 HR195_0 HR196_0 HB HL198_0 HR198_0 hx198_0 hx198_1 hHeld ⊢
            refine pl_ ?_
            refine plx_ 2 #[true, false, true, false, false, false, false, false, false, false] ?_
            refine plx_ 3 #[true, false, true, true, false, false, false, false, false, false] ?_
            refine plx_ 4 #[true, false, true, true, true, false, false, false, false, false] ?_
            refine plx_ 5 #[true, false, true, true, true, true, false, false, false, false] ?_
            refine tlx_ 1 (tf 6 4) ?_
            refine tl_ ?_
            iterate 2 (refine pl_ ?_)
            refine last_ (i := 9) (N := none) (tf 10 0) rfl rfl (one_of HT_.out (by kernel_rfl)) (by decide) (fun K hK => ?_)
            have hs31 : w30.cell? ⟨gb194, 1, none⟩ = some (.int .i64 x195001_2) := bc_ BK194 1
            have hfs31 := blk_frozen BK194.out 1
            have hns31_0 := NB182_194.out
            have hns31_1 := NB189_194.out
            have hms31_0 := NB194_182.out
            have hms31_1 := NB194_189.out
            refine skip_ (w1 := ?_) (by rfl) rfl ?_ ?_
            rotate_left
            ·go_simp
             rfl
            refine hK.out _ _ ?_
            clear hK K
            refine done_ (done_of HT_.out (by kernel_rfl)) ?_
            try go_wp2
            go_roundg k2
            case measure => have := HK1.out; have := HK2.out; omega
            case rel => exact ⟨(wrap64 (x7_2 + 1)), (wrap64 (x195001_2 + ((rd_T74 t186 x7_2).f1))), rs_, H', ⟨by have := HK1.out; have := HK2.out; omega⟩, ⟨by (with_reducible repeat (first | apply Kd.V_alloc | apply Kd.V_drewN | apply Kd.V_drew)); exact Kd.V_mono (Kd.V_far (p := ⟨gb194, 1, none⟩) (Kd.V_mono HO_5.out (fun k_ hk => (⟨hk, hk.2.2.2.2⟩ : _ ∧ k_ ≠ gb194))) (fun _ hk => hk.2) (.int .i64 (wrap64 (x195001_2 + ((rd_T74 t186 x7_2).f1))))) (fun _ hk => ⟨hk.1.1, ⟨hk.1.2.1, ⟨hk.1.2.2.1, ⟨hk.1.2.2.2.1, hk.1.2.2.2.2⟩⟩⟩⟩)⟩, ⟨by (with_reducible repeat (first | apply Kd.S_alloc | apply Kd.S_drewN | apply Kd.S_drew)); exact Kd.S_mono (Kd.S_far (p := ⟨gb194, 1, none⟩) (Kd.S_mono HO_190001.out (fun k_ hk => (⟨hk, hk.2⟩ : _ ∧ k_ ≠ gb194))) (fun _ hk => hk.2) (.int .i64 (wrap64 (x195001_2 + ((rd_T74 t186 x7_2).f1))))) (fun _ hk => ⟨hk.1.1, hk.1.2⟩)⟩, ⟨by (with_reducible repeat (first | apply Kd.R_alloc | apply Kd.R_drewN | apply Kd.R_drew)); exact Kd.R_mono (Kd.R_far (p := ⟨gb194, 1, none⟩) (Kd.R_types HO_195000.out BK194.out (by decide)) (fun _ hk => hk.2) (.int .i64 (wrap64 (x195001_2 + ((rd_T74 t186 x7_2).f1))))) (fun _ hk => trivial)⟩, ⟨(bf1_ NB182_194 (bkx_ BK182.out))⟩, ⟨(bf1_ NB189_194 (bkx_ BK189.out))⟩, ⟨by (with_reducible repeat (first | refine blk_drewN ?_ _ | refine blk_drew ?_ | refine blk_alloc ?_ _)); refine blk_put (cs := #[.slice Ao17 t191.length co17, .int .i64 x195001_2]) ?_ 1 _ rfl; (with_reducible repeat (first | refine blk_drewN ?_ _ | refine blk_drew ?_ | refine blk_alloc ?_ _)); exact BK194.out⟩, ⟨bb_⟩⟩
           ·rw [if_neg c27] at H
            have c27b0 : (t197 == 0) = false := beq_eq_false_iff_ne.mpr c27
            have c27b1 : (t197 != 0) = true := bne_iff_ne.mpr c27
            by_cases c32 : x195001_2 = 0
            ·rw [if_pos c32] at H
             have c32b0 : (x195001_2 == 0) = true := beq_iff_eq.mpr c32
             have c32b1 : (x195001_2 != 0) = false := bne_eq_false_iff_eq.mpr c32
             clear c32
             have H' := Aside0.mk H
             clear H
             try go_wp2
             replace HO_5 := Aside0.mk (Kd.V_drew HO_5.out)
             replace HO_190001 := Aside0.mk (Kd.S_drew HO_190001.out)
             replace HO_195000 := Aside0.mk (Kd.R_drew HO_195000.out)
             replace BK182 := Aside0.mk (blk_drew BK182.out)
             replace BK189 := Aside0.mk (blk_drew BK189.out)
             replace BK194 := Aside0.mk (blk_drew BK194.out)
             replace HB := Aside0.mk (below_drew1 HB.out)
             have p195 : 0 ≤ (x7_2 : Int) := od_
             have q195 : x7_2 < (t186.length : Int) := od_
             obtain ⟨ad195, A195_0, c195_0, e195, hx195_0, hx195_1, hl195_0, hi195_0⟩ := at_T74 (Kd.V_reads' HO_5.out).2.2 x7_2 p195 q195
             obtain rfl : ad190 = ad195 := (by injection e195)
             obtain ⟨ce195, hce195, hMe195, hcc195⟩ := Kd.V_get HO_5.out z74 x7_2 p195 (by first | exact q195 | exact od_ | (have e_ := (Kd.V_reads' HO_5.out).1; omega))
             obtain ⟨ua195_0, uc195_0, rfl, ul195_0, ge195_0⟩ := k74_openF hMe195
             have hv195_0 := hcc195 0 _ rfl
             rw [Nat.add_zero] at hv195_0
             replace hv195_0 := Option.some.inj (hv195_0.symm.trans hx195_0)
             injection hv195_0 with hva_ hvn_ hvc_
             rw [hva_] at ge195_0
             rw [hvc_] at ul195_0
             have HL195_0 := Aside0.mk (show Kd.V k25 25 _ w.heap.size _ _ ((rd_T74 t186 x7_2).f0) from Kd.V_mk ul195_0 ge195_0)
             clear hva_ hvn_ hvc_ ge195_0 ul195_0
             clear hcc195 hce195
             have HR195_0 := Aside0.mk hi195_0
             have HC195_0 := Aside0.mk hl195_0
             clear hi195_0 hl195_0
             replace p195 := eq_true p195
             replace q195 := eq_true q195
             have p196 : 0 ≤ (x7_1 : Int) := od_
             have q196 : x7_1 < (t186.length : Int) := od_
             obtain ⟨ad196, A196_0, c196_0, e196, hx196_0, hx196_1, hl196_0, hi196_0⟩ := at_T74 (Kd.V_reads' HO_5.out).2.2 x7_1 p196 q196
             obtain rfl : ad190 = ad196 := (by injection e196)
             obtain ⟨ce196, hce196, hMe196, hcc196⟩ := Kd.V_get HO_5.out z74 x7_1 p196 (by first | exact q196 | exact od_ | (have e_ := (Kd.V_reads' HO_5.out).1; omega))
             obtain ⟨ua196_0, uc196_0, rfl, ul196_0, ge196_0⟩ := k74_openF hMe196
             have hv196_0 := hcc196 0 _ rfl
             rw [Nat.add_zero] at hv196_0
             replace hv196_0 := Option.some.inj (hv196_0.symm.trans hx196_0)
             injection hv196_0 with hva_ hvn_ hvc_
             rw [hva_] at ge196_0
             rw [hvc_] at ul196_0
             have HL196_0 := Aside0.mk (show Kd.V k25 25 _ w.heap.size _ _ ((rd_T74 t186 x7_1).f0) from Kd.V_mk ul196_0 ge196_0)
             clear hva_ hvn_ hvc_ ge196_0 ul196_0
             clear hcc196 hce196
             have HR196_0 := Aside0.mk hi196_0
             have HC196_0 := Aside0.mk hl196_0
             clear hi196_0 hl196_0
             replace p196 := eq_true p196
             replace q196 := eq_true q196
             refine start_ (n := 18) (S := fun w' => w'.cell? (ad190.add ((x7_2).toNat * 2)) = some (.slice A195_0 ((rd_T74 t186 x7_2).f0).length c195_0) ∧ w'.cell? ⟨(ad190.add ((x7_2).toNat * 2)).block, (ad190.add ((x7_2).toNat * 2)).off + 1, none⟩ = some (.int .i64 ((rd_T74 t186 x7_2).f1)) ∧ w'.cell? (ad190.add ((x7_1).toNat * 2)) = some (.slice A196_0 ((rd_T74 t186 x7_1).f0).length c196_0) ∧ w'.cell? ⟨(ad190.add ((x7_1).toNat * 2)).block, (ad190.add ((x7_1).toNat * 2)).off + 1, none⟩ = some (.int .i64 ((rd_T74 t186 x7_1).f1))) (ds := []) (tf 0 18) (by kernel_rfl) rfl rfl ⟨hx195_0, hx195_1, hx196_0, hx196_1⟩ (fun hHeld => ?_); refine with_tabW impl_gathered.tab8 impl_gathered.bits8 (fun HT_ HW_ => ?_)
             generalize wr.drew = w33 at HO_5 HO_190001 HO_195000 BK182 BK189 BK194 HB HL195_0 HL196_0 HR195_0 HR196_0 hx195_0 hx195_1 hx196_0 hx196_1 hHeld ⊢
             iterate 9 (refine pl_ ?_)
             refine plx_ 10 #[true, true, true, true, true, true, true, true, true, false, true, false, false, false, false, false, false, false] ?_
             refine plx_ 11 #[true, true, true, true, true, true, true, true, true, false, true, true, false, false, false, false, false, false] ?_
             refine plx_ 12 #[true, true, true, true, true, true, true, true, true, false, true, true, true, false, false, false, false, false] ?_
             refine plx_ 13 #[true, true, true, true, true, true, true, true, true, false, true, true, true, true, false, false, false, false] ?_
             refine tlx_ 9 (tf 14 4) ?_
             refine tl_ ?_
             refine one_ (i := 15) (N := some 43) (tf 16 2) rfl rfl (one_of HT_.out (by kernel_rfl)) (by decide) (fun K hK => ?_)
             refine gs_ Try.func80 #[.slice A195_0 ((rd_T74 t186 x7_2).f0).length c195_0, .slice A196_0 ((rd_T74 t186 x7_1).f0).length c196_0] ?_
             with_reducible refine (impl_CompareRow.calls k2 _ _ ((rd_T74 t186 x7_2).f0) _ _ ((rd_T74 t186 x7_1).f0) t197 _ ?side1 ?side2 ?side3 ?side4 A26.out).mono ?_
             (case side1 => exact ck_ (by repeat (first | (with_reducible exact HR195_0.out) | (with_reducible refine Kd.C_alloc ?_ _) | (with_reducible refine Kd.C_drewN ?_ _) | (with_reducible refine Kd.C_drew ?_) | exact HR195_0.out)))
             (case side2 => exact HC195_0.out)
             (case side3 => exact ck_ (by repeat (first | (with_reducible exact HR196_0.out) | (with_reducible refine Kd.C_alloc ?_ _) | (with_reducible refine Kd.C_drewN ?_ _) | (with_reducible refine Kd.C_drew ?_) | exact HR196_0.out)))
             (case side4 => exact HC196_0.out)
             rintro e w34 ⟨rfl, hb⟩
             have HS0_ := (hb.cell (World.block_lt_of_cell? _ _ (hHeld.1))).trans (hHeld.1)
             have HS1_ := (hb.cell (World.block_lt_of_cell? _ _ (hHeld.2.1))).trans (hHeld.2.1)
             have HS2_ := (hb.cell (World.block_lt_of_cell? _ _ (hHeld.2.2.1))).trans (hHeld.2.2.1)
             have HS3_ := (hb.cell (World.block_lt_of_cell? _ _ (hHeld.2.2.2))).trans (hHeld.2.2.2)
             refine ⟨_, rfl, ?_⟩
             replace HO_5 := Aside0.mk (Kd.V_below (by (with_reducible repeat (first | apply Kd.V_alloc | apply Kd.V_drewN | apply Kd.V_drew)); exact HO_5.out) hb)
             replace HO_190001 := Aside0.mk (Kd.S_below (sk_ HO_190001.out) hb)
             replace HO_195000 := Aside0.mk (Kd.R_below (rk_ HO_195000.out) hb)
             replace HL195_0 := Aside0.mk (Kd.V_below (by (with_reducible repeat (first | apply Kd.V_alloc | apply Kd.V_drewN | apply Kd.V_drew)); exact HL195_0.out) hb)
             replace HL196_0 := Aside0.mk (Kd.V_below (by (with_reducible repeat (first | apply Kd.V_alloc | apply Kd.V_drewN | apply Kd.V_drew)); exact HL196_0.out) hb)
             replace BK182 := bkb_ BK182 hb
             replace BK189 := bkb_ BK189 hb
             replace BK194 := bkb_ BK194 hb
             replace HR195_0 := Aside0.mk (Kd.C_below (by repeat (first | (with_reducible exact HR195_0.out) | (with_reducible refine Kd.C_alloc ?_ _) | (with_reducible refine Kd.C_drewN ?_ _) | (with_reducible refine Kd.C_drew ?_) | exact HR195_0.out)) hb)
             replace HR196_0 := Aside0.mk (Kd.C_below (by repeat (first | (with_reducible exact HR196_0.out) | (with_reducible refine Kd.C_alloc ?_ _) | (with_reducible refine Kd.C_drewN ?_ _) | (with_reducible refine Kd.C_drew ?_) | exact HR196_0.out)) hb)
             replace HB := bs_ hb
             (try clear hb)
             (try clear hb2)
             (try clear hk)
             (try clear hi)
             refine hK.out _ _ ⟨HS0_, HS1_, HS2_, HS3_⟩ (fun hHeld => ?_)
             clear hK K
             refine nm_ ?_
             refine plx_ 16 (tf 17 1) ?_
             refine pl_ ?_
             refine done_ (done_of HT_.out (by kernel_rfl)) ?_
             have hnb35 := NB194_182.out
             have hnc35 := NB182_194.out
             have hnb36 := NB194_189.out
             have hnc36 := NB189_194.out
             obtain ⟨hcz37_0, hcz37_1, hfz37_0, hfz37_1⟩ := b2_ BK194
             try go_wp2
             go_roundg k2
             case measure => have := HK1.out; have := HK2.out; omega
             case rel => exact ⟨(x7_2), (x190001_1), (u190001), rs_, H', ⟨by have := HK1.out; have := HK2.out; omega⟩, ⟨by (with_reducible repeat (first | apply Kd.V_alloc | apply Kd.V_drewN | apply Kd.V_drew)); exact Kd.V_mono HO_5.out (fun _ hk => ⟨hk.1, ⟨hk.2.2.1, hk.2.2.2.1⟩⟩)⟩, ⟨by (with_reducible repeat (first | apply Kd.S_alloc | apply Kd.S_drewN | apply Kd.S_drew)); exact Kd.S_mono HO_190001.out (fun _ hk => trivial)⟩, ⟨bkx_ BK182.out⟩, ⟨bkx_ BK189.out⟩, ⟨bb_⟩⟩
            ·rw [if_neg c32] at H
             have c32b0 : (x195001_2 == 0) = false := beq_eq_false_iff_ne.mpr c32
             have c32b1 : (x195001_2 != 0) = true := bne_iff_ne.mpr c32
             by_cases c38 : x190001_1.length < 4398046511104
             ·rw [if_pos c38] at H
              have LMc38 := Aside0.mk c38
              clear c38
              obtain ⟨y199, hy199⟩ : ∃ y_ : List (S74), y_ = (x190001_1 ++ [(⟨t191, x195001_2⟩ : S74)]) := ⟨_, rfl⟩
              replace H : (impl_gathered.l0 k2 t186 x7_2 a0 y199) = some (r1, r2) := by first | (rw [hy199]; with_reducible exact H) | (have H2_ := (Option.bind_some _ _).symm.trans H; rw [hy199]; with_reducible exact H2_) | (have H2_ := (Option.bind_some _ _).symm.trans H; with_reducible exact H2_) | with_reducible exact H | (rw [hy199]; exact H) | exact H
              have Ny199 := Aside0.mk hy199
              clear hy199
              have H' := Aside0.mk H
              clear H
              try go_wp2
              replace HO_5 := Aside0.mk (Kd.V_drew HO_5.out)
              replace HO_190001 := Aside0.mk (Kd.S_drew HO_190001.out)
              replace HO_195000 := Aside0.mk (Kd.R_drew HO_195000.out)
              replace BK182 := Aside0.mk (blk_drew BK182.out)
              replace BK189 := Aside0.mk (blk_drew BK189.out)
              replace BK194 := Aside0.mk (blk_drew BK194.out)
              replace HB := Aside0.mk (below_drew1 HB.out)
              have p195 : 0 ≤ (x7_2 : Int) := od_
              have q195 : x7_2 < (t186.length : Int) := od_
              obtain ⟨ad195, A195_0, c195_0, e195, hx195_0, hx195_1, hl195_0, hi195_0⟩ := at_T74 (Kd.V_reads' HO_5.out).2.2 x7_2 p195 q195
              obtain rfl : ad190 = ad195 := (by injection e195)
              obtain ⟨ce195, hce195, hMe195, hcc195⟩ := Kd.V_get HO_5.out z74 x7_2 p195 (by first | exact q195 | exact od_ | (have e_ := (Kd.V_reads' HO_5.out).1; omega))
              obtain ⟨ua195_0, uc195_0, rfl, ul195_0, ge195_0⟩ := k74_openF hMe195
              have hv195_0 := hcc195 0 _ rfl
              rw [Nat.add_zero] at hv195_0
              replace hv195_0 := Option.some.inj (hv195_0.symm.trans hx195_0)
              injection hv195_0 with hva_ hvn_ hvc_
              rw [hva_] at ge195_0
              rw [hvc_] at ul195_0
              have HL195_0 := Aside0.mk (show Kd.V k25 25 _ w.heap.size _ _ ((rd_T74 t186 x7_2).f0) from Kd.V_mk ul195_0 ge195_0)
              clear hva_ hvn_ hvc_ ge195_0 ul195_0
              clear hcc195 hce195
              have HR195_0 := Aside0.mk hi195_0
              have HC195_0 := Aside0.mk hl195_0
              clear hi195_0 hl195_0
              replace p195 := eq_true p195
              replace q195 := eq_true q195
              have p196 : 0 ≤ (x7_1 : Int) := od_
              have q196 : x7_1 < (t186.length : Int) := od_
              obtain ⟨ad196, A196_0, c196_0, e196, hx196_0, hx196_1, hl196_0, hi196_0⟩ := at_T74 (Kd.V_reads' HO_5.out).2.2 x7_1 p196 q196
              obtain rfl : ad190 = ad196 := (by injection e196)
              obtain ⟨ce196, hce196, hMe196, hcc196⟩ := Kd.V_get HO_5.out z74 x7_1 p196 (by first | exact q196 | exact od_ | (have e_ := (Kd.V_reads' HO_5.out).1; omega))
              obtain ⟨ua196_0, uc196_0, rfl, ul196_0, ge196_0⟩ := k74_openF hMe196
              have hv196_0 := hcc196 0 _ rfl
              rw [Nat.add_zero] at hv196_0
              replace hv196_0 := Option.some.inj (hv196_0.symm.trans hx196_0)
              injection hv196_0 with hva_ hvn_ hvc_
              rw [hva_] at ge196_0
              rw [hvc_] at ul196_0
              have HL196_0 := Aside0.mk (show Kd.V k25 25 _ w.heap.size _ _ ((rd_T74 t186 x7_1).f0) from Kd.V_mk ul196_0 ge196_0)
              clear hva_ hvn_ hvc_ ge196_0 ul196_0
              clear hcc196 hce196
              have HR196_0 := Aside0.mk hi196_0
              have HC196_0 := Aside0.mk hl196_0
              clear hi196_0 hl196_0
              replace p196 := eq_true p196
              replace q196 := eq_true q196
              refine start_ (n := 18) (S := fun w' => w'.cell? (ad190.add ((x7_2).toNat * 2)) = some (.slice A195_0 ((rd_T74 t186 x7_2).f0).length c195_0) ∧ w'.cell? ⟨(ad190.add ((x7_2).toNat * 2)).block, (ad190.add ((x7_2).toNat * 2)).off + 1, none⟩ = some (.int .i64 ((rd_T74 t186 x7_2).f1)) ∧ w'.cell? (ad190.add ((x7_1).toNat * 2)) = some (.slice A196_0 ((rd_T74 t186 x7_1).f0).length c196_0) ∧ w'.cell? ⟨(ad190.add ((x7_1).toNat * 2)).block, (ad190.add ((x7_1).toNat * 2)).off + 1, none⟩ = some (.int .i64 ((rd_T74 t186 x7_1).f1))) (ds := []) (tf 0 18) (by kernel_rfl) rfl rfl ⟨hx195_0, hx195_1, hx196_0, hx196_1⟩ (fun hHeld => ?_); refine with_tabW impl_gathered.tab8 impl_gathered.bits8 (fun HT_ HW_ => ?_)
              generalize wr.drew = w39 at HO_5 HO_190001 HO_195000 BK182 BK189 BK194 HB HL195_0 HL196_0 HR195_0 HR196_0 hx195_0 hx195_1 hx196_0 hx196_1 hHeld ⊢
              iterate 9 (refine pl_ ?_)
              refine plx_ 10 #[true, true, true, true, true, true, true, true, true, false, true, false, false, false, false, false, false, false] ?_
              refine plx_ 11 #[true, true, true, true, true, true, true, true, true, false, true, true, false, false, false, false, false, false] ?_
              refine plx_ 12 #[true, true, true, true, true, true, true, true, true, false, true, true, true, false, false, false, false, false] ?_
              refine plx_ 13 #[true, true, true, true, true, true, true, true, true, false, true, true, true, true, false, false, false, false] ?_
              refine tlx_ 9 (tf 14 4) ?_
              refine tl_ ?_
              refine one_ (i := 15) (N := some 43) (tf 16 2) rfl rfl (one_of HT_.out (by kernel_rfl)) (by decide) (fun K hK => ?_)
              refine gs_ Try.func80 #[.slice A195_0 ((rd_T74 t186 x7_2).f0).length c195_0, .slice A196_0 ((rd_T74 t186 x7_1).f0).length c196_0] ?_
              with_reducible refine (impl_CompareRow.calls k2 _ _ ((rd_T74 t186 x7_2).f0) _ _ ((rd_T74 t186 x7_1).f0) t197 _ ?side1 ?side2 ?side3 ?side4 A26.out).mono ?_
              (case side1 => exact ck_ (by repeat (first | (with_reducible exact HR195_0.out) | (with_reducible refine Kd.C_alloc ?_ _) | (with_reducible refine Kd.C_drewN ?_ _) | (with_reducible refine Kd.C_drew ?_) | exact HR195_0.out)))
              (case side2 => exact HC195_0.out)
              (case side3 => exact ck_ (by repeat (first | (with_reducible exact HR196_0.out) | (with_reducible refine Kd.C_alloc ?_ _) | (with_reducible refine Kd.C_drewN ?_ _) | (with_reducible refine Kd.C_drew ?_) | exact HR196_0.out)))
              (case side4 => exact HC196_0.out)
              rintro e w40 ⟨rfl, hb⟩
              have HS0_ := (hb.cell (World.block_lt_of_cell? _ _ (hHeld.1))).trans (hHeld.1)
              have HS1_ := (hb.cell (World.block_lt_of_cell? _ _ (hHeld.2.1))).trans (hHeld.2.1)
              have HS2_ := (hb.cell (World.block_lt_of_cell? _ _ (hHeld.2.2.1))).trans (hHeld.2.2.1)
              have HS3_ := (hb.cell (World.block_lt_of_cell? _ _ (hHeld.2.2.2))).trans (hHeld.2.2.2)
              refine ⟨_, rfl, ?_⟩
              replace HO_5 := Aside0.mk (Kd.V_below (by (with_reducible repeat (first | apply Kd.V_alloc | apply Kd.V_drewN | apply Kd.V_drew)); exact HO_5.out) hb)
              replace HO_190001 := Aside0.mk (Kd.S_below (sk_ HO_190001.out) hb)
              replace HO_195000 := Aside0.mk (Kd.R_below (rk_ HO_195000.out) hb)
              replace HL195_0 := Aside0.mk (Kd.V_below (by (with_reducible repeat (first | apply Kd.V_alloc | apply Kd.V_drewN | apply Kd.V_drew)); exact HL195_0.out) hb)
              replace HL196_0 := Aside0.mk (Kd.V_below (by (with_reducible repeat (first | apply Kd.V_alloc | apply Kd.V_drewN | apply Kd.V_drew)); exact HL196_0.out) hb)
              replace BK182 := bkb_ BK182 hb
              replace BK189 := bkb_ BK189 hb
              replace BK194 := bkb_ BK194 hb
              replace HR195_0 := Aside0.mk (Kd.C_below (by repeat (first | (with_reducible exact HR195_0.out) | (with_reducible refine Kd.C_alloc ?_ _) | (with_reducible refine Kd.C_drewN ?_ _) | (with_reducible refine Kd.C_drew ?_) | exact HR195_0.out)) hb)
              replace HR196_0 := Aside0.mk (Kd.C_below (by repeat (first | (with_reducible exact HR196_0.out) | (with_reducible refine Kd.C_alloc ?_ _) | (with_reducible refine Kd.C_drewN ?_ _) | (with_reducible refine Kd.C_drew ?_) | exact HR196_0.out)) hb)
              replace HB := bs_ hb
              (try clear hb)
              (try clear hb2)
              (try clear hk)
              (try clear hi)
              refine hK.out _ _ ⟨HS0_, HS1_, HS2_, HS3_⟩ (fun hHeld => ?_)
              clear hK K
              refine nm_ ?_
              refine plx_ 16 (tf 17 1) ?_
              refine pl_ ?_
              refine done_ (done_of HT_.out (by kernel_rfl)) ?_
              have hnb41 := NB194_182.out
              have hnc41 := NB182_194.out
              have hnb42 := NB194_189.out
              have hnc42 := NB189_194.out
              obtain ⟨hcz43_0, hcz43_1, hfz43_0, hfz43_1⟩ := b2_ BK194
              have hnb44 := NB189_182.out
              have hnc44 := NB182_189.out
              obtain ⟨hcz45_0, hcz45_1, hfz45_0, hfz45_1⟩ := b2_ BK189
              try go_wp2_with (first | ((with_reducible refine gate_builtin (b := .append) (xs := #[.tmp 61, .tmp 63]) rfl ?_); at_builtin; refine Kd.S_append k74 (w0 := w) w.heap.size rfl (.tmp 61) (.tmp 63) 38 74 (.agg #[(.slice none 0 0), (.int .i64 0)]) 32 rfl Try.underlying38 info74 rfl (by decide) (by omega) u190001 x190001_1 (⟨t191, x195001_2⟩ : S74) [.slice Ao17 t191.length co17, .int .i64 x195001_2] (fun k_ => k_ ≠ gb194) (fun k_ => some k_ = (.slice Ao17 t191.length co17 : Value).ownBlock) rfl rfl ?aP (fun k_ hk_ => ((Kd.R_mono (ok' := fun k_ => ((fun k_ => k_ ≠ gb194)) k_ ∧ some k_ ≠ (u190001 : Value).ownBlock) (Kd.R_types (Kd.R_apart' (HO_195000.out) (Kd.S_typed HO_190001.out) (by decide)) BK194.out (by decide)) (fun k_ hk => ⟨hk.2, hk.1.2⟩))).1 k_ hk_.symm) ?aF ?aO ?aB ?aS ?aL ?_; (case aP => exact k74_mkM _ _ _ (⟨t191, x195001_2⟩ : S74) (Kd.R_mono (Kd.R_tight rfl (Kd.R_mono (ok' := fun k_ => ((fun k_ => k_ ≠ gb194)) k_ ∧ some k_ ≠ (u190001 : Value).ownBlock) (Kd.R_types (Kd.R_apart' (HO_195000.out) (Kd.S_typed HO_190001.out) (by decide)) BK194.out (by decide)) (fun k_ hk => ⟨hk.2, hk.1.2⟩))) (fun _ h_ => h_))); (case aB => exact bb_); (case aF => exact (fun k_ hk => Kd.freshB (g := gb194) (o := .cells #[.slice Ao17 t191.length co17, .int .i64 x195001_2] 74 (0, 0)) (bkx_ BK194.out) k_ hk)); (case aO => exact (sk_ (Kd.S_mono HO_190001.out (fun k_ hk => ⟨hk.2, fun e_ => hk.1 e_⟩)))); (case aS => exact (below_size bb_)); (case aL => have := LMc38.out; omega); intro v200 w46 ho hb hg hat; rw [← Ny199.out] at ho; have HO201 := Aside0.mk (ho); replace HO_5 := Aside0.mk (Kd.V_afterv (ok := (fun k_ => some k_ ≠ (.slice Ao17 t191.length co17 : Value).ownBlock ∧ k_ ≠ gb182 ∧ k_ ≠ gb189 ∧ k_ ≠ gb194)) (by (with_reducible repeat (first | apply Kd.V_alloc | apply Kd.V_drewN | apply Kd.V_drew)); exact Kd.V_mono HO_5.out (fun _ hk => ⟨⟨hk.2.1, ⟨hk.2.2.1, ⟨hk.2.2.2.1, hk.2.2.2.2⟩⟩⟩, hk.1⟩)) hg hat); replace BK182 := Aside0.mk (blk_grown (g := gb182) (o := .cells #[.int .i64 0, .slice none 0 0] 40 (0, 0)) (bkx_ BK182.out) hg (Kd.S_ne HO_190001.out BK182.out (by decide))); replace BK189 := Aside0.mk (blk_grown (g := gb189) (o := .cells #[.int .i64 a0, u190001] 40 (0, 0)) (bkx_ BK189.out) hg (Kd.S_ne HO_190001.out BK189.out (by decide))); replace BK194 := Aside0.mk (blk_grown (g := gb194) (o := .cells #[.slice Ao17 t191.length co17, .int .i64 x195001_2] 74 (0, 0)) (bkx_ BK194.out) hg (Kd.S_away HO_190001.out (fun _ hk => hk.2))); replace HL195_0 := Aside0.mk (Kd.V_afterv (ok := (fun k_ => some k_ ≠ (.slice Ao17 t191.length co17 : Value).ownBlock ∧ k_ ≠ gb182 ∧ k_ ≠ gb189 ∧ k_ ≠ gb194)) (by (with_reducible repeat (first | apply Kd.V_alloc | apply Kd.V_drewN | apply Kd.V_drew)); exact Kd.V_mono HL195_0.out (fun _ hk => ⟨⟨hk.2.1, ⟨hk.2.2.1, ⟨hk.2.2.2.1, hk.2.2.2.2⟩⟩⟩, hk.1⟩)) hg hat); replace HL196_0 := Aside0.mk (Kd.V_afterv (ok := (fun k_ => some k_ ≠ (.slice Ao17 t191.length co17 : Value).ownBlock ∧ k_ ≠ gb182 ∧ k_ ≠ gb189 ∧ k_ ≠ gb194)) (by (with_reducible repeat (first | apply Kd.V_alloc | apply Kd.V_drewN | apply Kd.V_drew)); exact Kd.V_mono HL196_0.out (fun _ hk => ⟨⟨hk.2.1, ⟨hk.2.2.1, ⟨hk.2.2.2.1, hk.2.2.2.2⟩⟩⟩, hk.1⟩)) hg hat); replace HB := Aside0.mk (hb); clear HO_190001 HO_195000; clear ho hb hg hat; obtain ⟨Ao47, co47, eo47⟩ := Kd.S_slice HO201.out; subst eo47; obtain ⟨hcz48_0, hcz48_1, hfz48_0, hfz48_1⟩ := b2_ BK189))
              go_roundg k2
              case measure => have := HK1.out; have := HK2.out; omega
              case rel => exact ⟨(x7_2), (y199), (.slice Ao47 y199.length co47), rs_, H', ⟨by have := HK1.out; have := HK2.out; omega⟩, ⟨by (with_reducible repeat (first | apply Kd.V_alloc | apply Kd.V_drewN | apply Kd.V_drew)); exact Kd.V_mono (Kd.V_far (p := ⟨gb189, 1, none⟩) (Kd.V_mono HO_5.out (fun k_ hk => (⟨hk, hk.1.2.2.1⟩ : _ ∧ k_ ≠ gb189))) (fun _ hk => hk.2) (.slice Ao47 y199.length co47)) (fun _ hk => ⟨hk.1.2, ⟨hk.1.1.2.1, hk.1.1.2.2.1⟩⟩)⟩, ⟨by (with_reducible repeat (first | apply Kd.S_alloc | apply Kd.S_drewN | apply Kd.S_drew)); exact Kd.S_mono (Kd.S_far (p := ⟨gb189, 1, none⟩) (Kd.S_types HO201.out BK189.out (by decide)) (fun _ hk => hk.2) (.slice Ao47 y199.length co47)) (fun _ hk => trivial)⟩, ⟨(bf1_ NB182_189 (bkx_ BK182.out))⟩, ⟨by (with_reducible repeat (first | refine blk_drewN ?_ _ | refine blk_drew ?_ | refine blk_alloc ?_ _)); refine blk_put (cs := #[.int .i64 a0, u190001]) ?_ 1 _ rfl; (with_reducible repeat (first | refine blk_drewN ?_ _ | refine blk_drew ?_ | refine blk_alloc ?_ _)); exact BK189.out⟩, ⟨bb_⟩⟩
             ·rw [if_neg c38] at H
              exact absurd H (by simp)
          ·rw [if_neg c25] at H
           exact absurd H (by simp)
         ·rw [if_neg c24] at H
          exact absurd H (by simp)
        ·rw [if_neg c23] at H
         exact absurd H (by simp)
       ·rw [if_neg c22] at H
        have c22b0 : decide (x7_2 < (t186.length : Int)) = false := decide_eq_false c22
        clear c22
        by_cases c49 : x195001_2 = 0
        ·rw [if_pos c49] at H
         have c49b0 : (x195001_2 == 0) = true := beq_iff_eq.mpr c49
         have c49b1 : (x195001_2 != 0) = false := bne_eq_false_iff_eq.mpr c49
         clear c49
         have H' := Aside0.mk H
         clear H
         try go_wp2
         replace HO_5 := Aside0.mk (Kd.V_drew HO_5.out)
         replace HO_190001 := Aside0.mk (Kd.S_drew HO_190001.out)
         replace HO_195000 := Aside0.mk (Kd.R_drew HO_195000.out)
         replace BK182 := Aside0.mk (blk_drew BK182.out)
         replace BK189 := Aside0.mk (blk_drew BK189.out)
         replace BK194 := Aside0.mk (blk_drew BK194.out)
         replace HB := Aside0.mk (below_drew1 HB.out)
         refine start_ (n := 18) (S := fun w' => True) (ds := []) (tf 0 18) (by kernel_rfl) rfl rfl trivial (fun hHeld => ?_); refine with_tabW impl_gathered.tab8 impl_gathered.bits8 (fun HT_ HW_ => ?_)
         generalize wr.drew = w50 at HO_5 HO_190001 HO_195000 BK182 BK189 BK194 HB hHeld ⊢
         iterate 5 (refine pl_ ?_)
         iterate 12 (refine pd_ ?_)
         refine pl_ ?_
         refine done_ (done_of HT_.out (by kernel_rfl)) ?_
         have hnb51 := NB194_182.out
         have hnc51 := NB182_194.out
         have hnb52 := NB194_189.out
         have hnc52 := NB189_194.out
         obtain ⟨hcz53_0, hcz53_1, hfz53_0, hfz53_1⟩ := b2_ BK194
         try go_wp2
         go_roundg k2
         case measure => have := HK1.out; have := HK2.out; omega
         case rel => exact ⟨(x7_2), (x190001_1), (u190001), rs_, H', ⟨by have := HK1.out; have := HK2.out; omega⟩, ⟨by (with_reducible repeat (first | apply Kd.V_alloc | apply Kd.V_drewN | apply Kd.V_drew)); exact Kd.V_mono HO_5.out (fun _ hk => ⟨hk.1, ⟨hk.2.2.1, hk.2.2.2.1⟩⟩)⟩, ⟨by (with_reducible repeat (first | apply Kd.S_alloc | apply Kd.S_drewN | apply Kd.S_drew)); exact Kd.S_mono HO_190001.out (fun _ hk => trivial)⟩, ⟨bkx_ BK182.out⟩, ⟨bkx_ BK189.out⟩, ⟨bb_⟩⟩
        ·rw [if_neg c49] at H
         have c49b0 : (x195001_2 == 0) = false := beq_eq_false_iff_ne.mpr c49
         have c49b1 : (x195001_2 != 0) = true := bne_iff_ne.mpr c49
         by_cases c54 : x190001_1.length < 4398046511104
         ·rw [if_pos c54] at H
          have LMc54 := Aside0.mk c54
          clear c54
          obtain ⟨y202, hy202⟩ : ∃ y_ : List (S74), y_ = (x190001_1 ++ [(⟨t191, x195001_2⟩ : S74)]) := ⟨_, rfl⟩
          replace H : (impl_gathered.l0 k2 t186 x7_2 a0 y202) = some (r1, r2) := by first | (rw [hy202]; with_reducible exact H) | (have H2_ := (Option.bind_some _ _).symm.trans H; rw [hy202]; with_reducible exact H2_) | (have H2_ := (Option.bind_some _ _).symm.trans H; with_reducible exact H2_) | with_reducible exact H | (rw [hy202]; exact H) | exact H
          have Ny202 := Aside0.mk hy202
          clear hy202
          have H' := Aside0.mk H
          clear H
          try go_wp2
          replace HO_5 := Aside0.mk (Kd.V_drew HO_5.out)
          replace HO_190001 := Aside0.mk (Kd.S_drew HO_190001.out)
          replace HO_195000 := Aside0.mk (Kd.R_drew HO_195000.out)
          replace BK182 := Aside0.mk (blk_drew BK182.out)
          replace BK189 := Aside0.mk (blk_drew BK189.out)
          replace BK194 := Aside0.mk (blk_drew BK194.out)
          replace HB := Aside0.mk (below_drew1 HB.out)
          refine start_ (n := 18) (S := fun w' => True) (ds := []) (tf 0 18) (by kernel_rfl) rfl rfl trivial (fun hHeld => ?_); refine with_tabW impl_gathered.tab8 impl_gathered.bits8 (fun HT_ HW_ => ?_)
          generalize wr.drew = w55 at HO_5 HO_190001 HO_195000 BK182 BK189 BK194 HB hHeld ⊢
          iterate 5 (refine pl_ ?_)
          iterate 12 (refine pd_ ?_)
          refine pl_ ?_
          refine done_ (done_of HT_.out (by kernel_rfl)) ?_
          have hnb56 := NB194_182.out
          have hnc56 := NB182_194.out
          have hnb57 := NB194_189.out
          have hnc57 := NB189_194.out
          obtain ⟨hcz58_0, hcz58_1, hfz58_0, hfz58_1⟩ := b2_ BK194
          have hnb59 := NB189_182.out
          have hnc59 := NB182_189.out
          obtain ⟨hcz60_0, hcz60_1, hfz60_0, hfz60_1⟩ := b2_ BK189
          try go_wp2_with (first | ((with_reducible refine gate_builtin (b := .append) (xs := #[.tmp 61, .tmp 63]) rfl ?_); at_builtin; refine Kd.S_append k74 (w0 := w) w.heap.size rfl (.tmp 61) (.tmp 63) 38 74 (.agg #[(.slice none 0 0), (.int .i64 0)]) 32 rfl Try.underlying38 info74 rfl (by decide) (by omega) u190001 x190001_1 (⟨t191, x195001_2⟩ : S74) [.slice Ao17 t191.length co17, .int .i64 x195001_2] (fun k_ => k_ ≠ gb194) (fun k_ => some k_ = (.slice Ao17 t191.length co17 : Value).ownBlock) rfl rfl ?aP (fun k_ hk_ => ((Kd.R_mono (ok' := fun k_ => ((fun k_ => k_ ≠ gb194)) k_ ∧ some k_ ≠ (u190001 : Value).ownBlock) (Kd.R_types (Kd.R_apart' (HO_195000.out) (Kd.S_typed HO_190001.out) (by decide)) BK194.out (by decide)) (fun k_ hk => ⟨hk.2, hk.1.2⟩))).1 k_ hk_.symm) ?aF ?aO ?aB ?aS ?aL ?_; (case aP => exact k74_mkM _ _ _ (⟨t191, x195001_2⟩ : S74) (Kd.R_mono (Kd.R_tight rfl (Kd.R_mono (ok' := fun k_ => ((fun k_ => k_ ≠ gb194)) k_ ∧ some k_ ≠ (u190001 : Value).ownBlock) (Kd.R_types (Kd.R_apart' (HO_195000.out) (Kd.S_typed HO_190001.out) (by decide)) BK194.out (by decide)) (fun k_ hk => ⟨hk.2, hk.1.2⟩))) (fun _ h_ => h_))); (case aB => exact bb_); (case aF => exact (fun k_ hk => Kd.freshB (g := gb194) (o := .cells #[.slice Ao17 t191.length co17, .int .i64 x195001_2] 74 (0, 0)) (bkx_ BK194.out) k_ hk)); (case aO => exact (sk_ (Kd.S_mono HO_190001.out (fun k_ hk => ⟨hk.2, fun e_ => hk.1 e_⟩)))); (case aS => exact (below_size bb_)); (case aL => have := LMc54.out; omega); intro v203 w61 ho hb hg hat; rw [← Ny202.out] at ho; have HO204 := Aside0.mk (ho); replace HO_5 := Aside0.mk (Kd.V_afterv (ok := (fun k_ => some k_ ≠ (.slice Ao17 t191.length co17 : Value).ownBlock ∧ k_ ≠ gb182 ∧ k_ ≠ gb189 ∧ k_ ≠ gb194)) (by (with_reducible repeat (first | apply Kd.V_alloc | apply Kd.V_drewN | apply Kd.V_drew)); exact Kd.V_mono HO_5.out (fun _ hk => ⟨⟨hk.2.1, ⟨hk.2.2.1, ⟨hk.2.2.2.1, hk.2.2.2.2⟩⟩⟩, hk.1⟩)) hg hat); replace BK182 := Aside0.mk (blk_grown (g := gb182) (o := .cells #[.int .i64 0, .slice none 0 0] 40 (0, 0)) (bkx_ BK182.out) hg (Kd.S_ne HO_190001.out BK182.out (by decide))); replace BK189 := Aside0.mk (blk_grown (g := gb189) (o := .cells #[.int .i64 a0, u190001] 40 (0, 0)) (bkx_ BK189.out) hg (Kd.S_ne HO_190001.out BK189.out (by decide))); replace BK194 := Aside0.mk (blk_grown (g := gb194) (o := .cells #[.slice Ao17 t191.length co17, .int .i64 x195001_2] 74 (0, 0)) (bkx_ BK194.out) hg (Kd.S_away HO_190001.out (fun _ hk => hk.2))); replace HB := Aside0.mk (hb); clear HO_190001 HO_195000; clear ho hb hg hat; obtain ⟨Ao62, co62, eo62⟩ := Kd.S_slice HO204.out; subst eo62; obtain ⟨hcz63_0, hcz63_1, hfz63_0, hfz63_1⟩ := b2_ BK189))
          go_roundg k2
          case measure => have := HK1.out; have := HK2.out; omega
          case rel => exact ⟨(x7_2), (y202), (.slice Ao62 y202.length co62), rs_, H', ⟨by have := HK1.out; have := HK2.out; omega⟩, ⟨by (with_reducible repeat (first | apply Kd.V_alloc | apply Kd.V_drewN | apply Kd.V_drew)); exact Kd.V_mono (Kd.V_far (p := ⟨gb189, 1, none⟩) (Kd.V_mono HO_5.out (fun k_ hk => (⟨hk, hk.1.2.2.1⟩ : _ ∧ k_ ≠ gb189))) (fun _ hk => hk.2) (.slice Ao62 y202.length co62)) (fun _ hk => ⟨hk.1.2, ⟨hk.1.1.2.1, hk.1.1.2.2.1⟩⟩)⟩, ⟨by (with_reducible repeat (first | apply Kd.S_alloc | apply Kd.S_drewN | apply Kd.S_drew)); exact Kd.S_mono (Kd.S_far (p := ⟨gb189, 1, none⟩) (Kd.S_types HO204.out BK189.out (by decide)) (fun _ hk => hk.2) (.slice Ao62 y202.length co62)) (fun _ hk => trivial)⟩, ⟨(bf1_ NB182_189 (bkx_ BK182.out))⟩, ⟨by (with_reducible repeat (first | refine blk_drewN ?_ _ | refine blk_drew ?_ | refine blk_alloc ?_ _)); refine blk_put (cs := #[.int .i64 a0, u190001]) ?_ 1 _ rfl; (with_reducible repeat (first | refine blk_drewN ?_ _ | refine blk_drew ?_ | refine blk_alloc ?_ _)); exact BK189.out⟩, ⟨bb_⟩⟩
         ·rw [if_neg c54] at H
          exact absurd H (by simp)
    ·rw [if_neg c13] at H
     exact absurd H (by simp)
   ·rw [if_neg c12] at H
    have c12b0 : decide (x7_1 < (t186.length : Int)) = false := decide_eq_false c12
    clear c12
    simp only [Option.some.injEq, Prod.mk.injEq] at H
    obtain ⟨rfl, rfl⟩ := H
    obtain ⟨Ao64, co64, eo64⟩ := Kd.V_slice HO_5.out
    subst eo64
    have hnb65 := NB189_182.out
    have hnc65 := NB182_189.out
    obtain ⟨hcz66_0, hcz66_1, hfz66_0, hfz66_1⟩ := b2_ BK189
    obtain ⟨hcz67_0, hcz67_1, hfz67_0, hfz67_1⟩ := b2_ BK182
    obtain ⟨Ao68, co68, eo68⟩ := Kd.S_slice HO_190001.out
    subst eo68
    go_wp2
    refine bodyPost_ret (results_cell_row rfl _ _ gb182 40 #[.int .i64 a0, .slice Ao68 x190001_1.length co68] (0, 0) _ rfl (bp2_ (bkx_ BK182.out)) Try.underlying40 rfl (by kernel_rfl)) rfl ?_
    exact ⟨_, by first | rfl | (simp [errW_none, errW_some] <;> rfl) | (simp [*, errW_none, errW_some] <;> rfl), by (with_reducible repeat (first | apply Kd.S_alloc | apply Kd.S_drewN | apply Kd.S_drew)); exact Kd.S_mono (Kd.S_far (p := ⟨gb182, 1, none⟩) (Kd.S_far (p := ⟨gb182, 0, none⟩) (Kd.S_types HO_190001.out BK182.out (by decide)) (fun _ hk => hk.2) (.int .i64 a0)) (fun _ hk => hk.2) (.slice Ao68 x190001_1.length co68)) (fun _ hk => trivial), by repeat (first | (with_reducible first | exact HB.out | apply below_alloc | apply pw_below_drewN | apply below_drew1 | refine below_set ?_ GE182.out | refine below_set ?_ GE189.out) | exact HB.out)⟩

end Go.Proofs.Ytapgfamppnhnmaa.PFnExactBagOf
