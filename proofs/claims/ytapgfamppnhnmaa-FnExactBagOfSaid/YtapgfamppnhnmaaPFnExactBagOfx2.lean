-- WRITTEN BY xprint.py, a program of this session over the kit's printer: by nobody's hand
-- PRESSED
import Derived.Test.YtapgfamppnhnmaaPress
import Derived.Test.YtapgfamppnhnmaaPFnExactBagOfx0
import Derived.Test.YtapgfamppnhnmaaPFnExactBagOfx1
namespace Go.Proofs.Ytapgfamppnhnmaa.PFnExactBagOf
open Go.RowKit Go.Proofs.YtapgfamppnhnmaaW.PrintWords Go.Proofs.YtapgfamppnhnmaaW.PrintLast Go.Proofs.YtapgfamppnhnmaaW.PrintMore
attribute [local go_sem] max2_int min2_int max_two min_two max_three min_three max_four min_four   -- for this text's walks alone
set_option linter.unusedVariables false
set_option linter.unusedSimpArgs false

/-! ### spec_l02Put: function 43 -/
-- by hand
mutual
def spec_l02Put.l0 : Nat → List (S25) → Int → Int → Int → Int → List (S74) → Option (Int × (List (S74)))
 | 0, _, _, _, _, _, _ => none
 | k + 1, x1, x2, x7, x8, x190000, x190001 => if x7 < x8 then (if 0 ≤ (wrap64 (Int.tdiv (wrap64 (x7 + x8)) 2)) then (if (wrap64 (Int.tdiv (wrap64 (x7 + x8)) 2)) < (x190001.length : Int) then ((spec_CompareRow.f k ((rd_T74 x190001 (wrap64 (Int.tdiv (wrap64 (x7 + x8)) 2))).f0) x1).bind fun t192 => (if t192 < 0 then (spec_l02Put.l0 k x1 x2 (wrap64 ((wrap64 (Int.tdiv (wrap64 (x7 + x8)) 2)) + 1)) x8 x190000 x190001) else (spec_l02Put.l0 k x1 x2 x7 (wrap64 (Int.tdiv (wrap64 (x7 + x8)) 2)) x190000 x190001))) else (none)) else (none)) else (if x7 < (x190001.length : Int) then (if 0 ≤ x7 then ((spec_CompareRow.f k ((rd_T74 x190001 x7).f0) x1).bind fun t194 => (spec_l02Put.j1 k x1 x2 x7 (t194 == 0) x190000 x190001)) else (none)) else (spec_l02Put.j1 k x1 x2 x7 false x190000 x190001))
def spec_l02Put.j1 : Nat → List (S25) → Int → Int → Bool → Int → List (S74) → Option (Int × (List (S74)))
 | 0, _, _, _, _, _, _ => none
 | k + 1, x1, x2, x7, x47, x190000, x190001 => if x47 = true then (if 0 ≤ x7 then (if x7 < (x190001.length : Int) then (if (wrap64 (x2 + ((rd_T74 x190001 x7).f1))) = 0 then ((some (([] : List (S74)) : List (S74))).bind fun y196 => (if x7 ≤ (x190001.length : Int) then ((some (x190001.take (x7 : Int).toNat : List (S74))).bind fun y199 => (if y196.length + y199.length < 4398046511104 then ((some (y196 ++ y199 : List (S74))).bind fun y204 => (if 0 ≤ (wrap64 (x7 + 1)) then (if (wrap64 (x7 + 1)) ≤ (x190001.length : Int) then ((some (x190001.drop ((wrap64 (x7 + 1)) : Int).toNat : List (S74))).bind fun y207 => (if y204.length + y207.length < 4398046511104 then (some (x190000, (y204 ++ y207))) else (none))) else (none)) else (none))) else (none))) else (none))) else (some (x190000, (x190001.set (x7 : Int).toNat (⟨(rd_T74 x190001 x7).f0, wrap64 (x2 + (rd_T74 x190001 x7).f1)⟩ : S74))))) else (none)) else (none)) else (if x2 = 0 then (some (x190000, x190001)) else ((some (([] : List (S74)) : List (S74))).bind fun y216 => (if 0 ≤ x7 then (if x7 ≤ (x190001.length : Int) then ((some (x190001.take (x7 : Int).toNat : List (S74))).bind fun y219 => (if y216.length + y219.length < 4398046511104 then ((some (y216 ++ y219 : List (S74))).bind fun y224 => ((spec_l02CopyRow.f x1).bind fun t227 => (if y224.length < 4398046511104 then ((some (y224 ++ [(⟨t227, x2⟩ : S74)] : List (S74))).bind fun y230 => ((some (x190001.drop (x7 : Int).toNat : List (S74))).bind fun y233 => (if y230.length + y233.length < 4398046511104 then (some (x190000, (y230 ++ y233))) else (none)))) else (none)))) else (none))) else (none)) else (none))))
end
def spec_l02Put.f (k : Nat) (a0_0 : Int) (l0_1 : List (S74)) (l1 : List (S25)) (a2 : Int) : Option (Int × (List (S74))) := spec_l02Put.l0 k l1 a2 0 (l0_1.length : Int) a0_0 l0_1
def spec_l02Put.T12 : Bool × List (List Nat × List Nat) := (true, [([], []), ([], []), ([1], [1]), ([], []), ([2, 3], [2, 3]), ([0, 4], [0, 4]), ([], []), ([6], [6]), ([], []), ([8], [8]), ([7, 9], [7, 9]), ([5, 10, 5], [5, 10]), ([0, 1, 2, 3, 4, 5, 6, 7, 8, 9, 10, 11], []), ([12, 11, 11, 0, 1, 2, 3, 4, 5, 6, 7, 8, 9, 10, 11], [11, 12])])
def spec_l02Put.B12 : List Nat := [0, 0, 2, 0, 14, 31, 0, 64, 0, 256, 960, 2047, 4095, 8191]
theorem spec_l02Put.tab12 : rtab .any (opsOf Try.f43 12) = spec_l02Put.T12 := by kernel_rfl
theorem spec_l02Put.bits12 : waitsOk spec_l02Put.T12.2 spec_l02Put.B12 = true := by kernel_rfl
def spec_l02Put.T15 : Bool × List (List Nat × List Nat) := (true, [([], []), ([], []), ([1], [1]), ([], []), ([2, 3], [2, 3]), ([0, 4], [0, 4]), ([], []), ([6, 5], [6]), ([], []), ([7, 8], [7, 8]), ([9], [9]), ([5, 10, 7], [5, 10]), ([], []), ([12], [12]), ([], []), ([13, 14], [13, 14]), ([11, 15, 11], [11, 15]), ([0, 1, 2, 3, 4, 5, 6, 7, 8, 9, 10, 11, 12, 13, 14, 15, 16], []), ([17, 16, 16, 0, 1, 2, 3, 4, 5, 6, 7, 8, 9, 10, 11, 12, 13, 14, 15, 16], [16, 17])])
def spec_l02Put.B15 : List Nat := [0, 0, 2, 0, 14, 31, 0, 127, 0, 511, 1023, 2047, 0, 4096, 0, 28672, 65535, 131071, 262143]
theorem spec_l02Put.tab15 : rtab .any (opsOf Try.f43 15) = spec_l02Put.T15 := by kernel_rfl
theorem spec_l02Put.bits15 : waitsOk spec_l02Put.T15.2 spec_l02Put.B15 = true := by kernel_rfl
theorem grown_then {w W W2 : World} {row : Option Nat} (h : Below w.heap.size w W) (hg : W.grownBy W2 row) : w.grownBy W2 row := ⟨hg.os.trans h.os, hg.tape.trans h.tape, hg.output.trans h.output, Nat.le_trans h.size hg.size, fun k hk hr => (hg.block k (Nat.lt_of_lt_of_le hk h.size) hr).trans (h.block k hk)⟩
theorem grown_drewN {w W : World} {row : Option Nat} (h : w.grownBy W row) (n : Nat) : w.grownBy (W.drewN n) row := ⟨h.os, h.tape, h.output, h.size, h.block⟩
theorem grown_set {w W : World} {row : Option Nat} {g j : Nat} {v : Value} (h : w.grownBy W row) (hg : w.heap.size ≤ g) : w.grownBy (W.setCell ⟨g, j, none⟩ v) row := ⟨h.os, h.tape, h.output, by have := h.size; simpa [World.setCell] using this, fun k hk hr => (Below.heap_setCell W ⟨g, j, none⟩ v k (Nat.ne_of_lt (Nat.lt_of_lt_of_le hk hg))).trans (h.block k hk hr)⟩
set_option maxHeartbeats 8000000 in
set_option maxRecDepth 100000 in
theorem spec_l02Put.calls (k : Nat) (a0_0 : Int) (P0_1_ : Nat → Prop) (b_ : Nat) (A0_1 : Option Addr) (c0_1 : Nat) (l0_1 : List (S74)) (A1 : Option Addr) (c1 : Nat) (l1 : List (S25)) (a2 : Int) (r1 : Int) (r2 : List (S74)) (w : World) (hN_ : Kd.N k74 74 w b_ P0_1_ (.slice A0_1 l0_1.length c0_1) l0_1) (hb_ : b_ ≤ w.heap.size) (hr1 : Kd.C k25 w A1 l1.length l1) (hc1 : l1.length ≤ c1) (h : spec_l02Put.f k a0_0 l0_1 l1 a2 = some (r1, r2)) :
  Calls Try.prog 43 #[.agg #[.int .i64 a0_0, .slice A0_1 l0_1.length c0_1], .slice A1 l1.length c1, .int .i64 a2] w fun e w' => ∃ v1_ : Value, e = .returned (.agg #[.int .i64 r1, v1_]) ∧ Kd.N k74 74 w' b_ (fun k_ => (P0_1_ k_ ∨ w.heap.size ≤ k_)) v1_ r2 ∧ w.grownBy w' (.slice A0_1 l0_1.length c0_1 : Value).ownBlock ∧ (v1_.ownBlock = (.slice A0_1 l0_1.length c0_1 : Value).ownBlock ∨ ∀ k_, v1_.ownBlock = some k_ → w.heap.size ≤ k_) := by
 have HN_ := Aside0.mk (Kd.N_bound hN_)
 have hs0_1 : Kd.V k74 74 w w.heap.size (fun k_ => P0_1_ k_) (.slice A0_1 l0_1.length c0_1) l0_1 := Kd.N_V hN_
 clear hN_
 have hu40 := Try.underlying40
 have hu74 := Try.underlying74
 have HO0_1 := Aside0.mk (show Kd.V k74 74 w w.heap.size (fun k_ => (P0_1_ k_ ∨ w.heap.size ≤ k_)) (.slice A0_1 l0_1.length c0_1) l0_1 from Kd.V_mono hs0_1 (fun k_ hk => .inl hk))
 have HR1 := Aside0.mk hr1
 have HC1 := Aside0.mk hc1
 clear hr1 hc1
 have HB := Aside0.mk (Below.refl w.heap.size w)
 have H : (spec_l02Put.l0 k l1 a2 0 (l0_1.length : Int) a0_0 l0_1) = some (r1, r2) := h
 clear h
 have H' := Aside0.mk H
 clear H
 go_enter Try.func43, Try.ntmps43
 try go_wp2_with (first | ((with_reducible refine gate_dst (N := 3) rfl ?_); refine bx_ 3 #[.int .i64 a0_0, .slice A0_1 l0_1.length c0_1] 40 ?_; intro gb189 hg w4 hbox hb; have BK189 := Aside0.mk (hbox); have GW189 := gw_ hg; have GE189 := gw_ hg; replace HO0_1 := Aside0.mk (Kd.V_below (Kd.V_elderB (by (with_reducible repeat (first | apply Kd.V_alloc | apply Kd.V_drewN | apply Kd.V_drew)); exact HO0_1.out) gb189 (Nat.le_of_eq hg.symm)) hb); replace HB := bs_ hb; clear hb hbox hg) | ((with_reducible refine gate_dst (N := 6) rfl ?_); refine bx_ 6 #[.int .i64 0, .slice none 0 0] 40 ?_; intro gb190 hg w5 hbox hb; have BK190 := Aside0.mk (hbox); have GW190 := gw_ hg; have GE190 := gw_ hg; have NB189_190 := nl_ hg BK189; have NB190_189 := ng_ hg BK189; replace HO0_1 := Aside0.mk (Kd.V_below (Kd.V_elderB (by (with_reducible repeat (first | apply Kd.V_alloc | apply Kd.V_drewN | apply Kd.V_drew)); exact HO0_1.out) gb190 (Nat.le_of_eq hg.symm)) hb); replace BK189 := bkb_ BK189 hb; replace HB := bs_ hb; clear hb hbox hg))
 replace HO0_1 := Aside0.mk (Kd.V_drew HO0_1.out)
 replace BK189 := Aside0.mk (blk_drew BK189.out)
 replace BK190 := Aside0.mk (blk_drew BK190.out)
 replace HB := Aside0.mk (below_drew1 HB.out)
 refine start_ (n := 5) (S := fun w' => w'.cell? ⟨gb189, 0, none⟩ = some (.int .i64 a0_0) ∧ w'.cell? ⟨gb189, 1, none⟩ = some (.slice A0_1 l0_1.length c0_1)) (ds := []) (tf 0 5) (by kernel_rfl) rfl rfl ⟨bc_ BK189 0, bc_ BK189 1⟩ (fun hHeld => ?_)
 generalize w5.drew = w6 at HO0_1 BK189 BK190 HB hHeld ⊢
 refine pure_ (i := 0) (N := some 10) (v := ?_) (a' := ?_) (tf 1 4) rfl rfl (by kernel_rfl) (fun _ _ _ h => h) (Or.inl ⟨by rfl, ?_⟩) ?_ ?_
 rotate_left
 ·intro w'
  go_simp
  with_reducible rfl
 rotate_left
 ·simp only [Act.put, List.setIfInBounds_toArray, List.set_cons_zero, List.set_cons_succ, i64_w, i32_w]
  rfl
 refine pure_ (i := 3) (N := some 7) (v := ?_) (a' := ?_) #[true, false, false, true, false] rfl rfl (by kernel_rfl) (fun _ _ _ h => h) (Or.inl ⟨by rfl, ?_⟩) ?_ ?_
 rotate_left
 ·intro w'
  go_simp
  with_reducible rfl
 rotate_left
 ·simp only [Act.put, List.setIfInBounds_toArray, List.set_cons_zero, List.set_cons_succ, i64_w, i32_w]
  rfl
 refine take_ (i := 1) (N := some 11) (v := ?_) (a' := ?_) #[true, true, false, true, false] rfl rfl (by kernel_rfl) (fun _ _ _ h => h) (Or.inl ⟨by rfl, ?_⟩) hHeld ?_ ?_
 rotate_left
 ·rintro w' ⟨s0, s1⟩
  go_simp
  with_reducible rfl
 rotate_left
 ·simp only [Act.put, List.setIfInBounds_toArray, List.set_cons_zero, List.set_cons_succ, i64_w, i32_w]
  rfl
 refine pure_ (i := 2) (N := some 12) (v := ?_) (a' := ?_) (tf 4 1) rfl rfl (by kernel_rfl) (fun _ _ _ h => h) (Or.inl ⟨by rfl, ?_⟩) ?_ ?_
 rotate_left
 ·intro w'
  go_simp
  with_reducible rfl
 rotate_left
 ·simp only [Act.put, List.setIfInBounds_toArray, List.set_cons_zero, List.set_cons_succ, i64_w, i32_w]
  rfl
 refine pure_ (i := 4) (N := some 8) (v := ?_) (a' := ?_) (tf 5 0) rfl rfl (by kernel_rfl) (fun _ _ _ h => h) (Or.inl ⟨by rfl, ?_⟩) ?_ ?_
 rotate_left
 ·intro w'
  go_simp
  with_reducible rfl
 rotate_left
 ·simp only [Act.put, List.setIfInBounds_toArray, List.set_cons_zero, List.set_cons_succ, i64_w, i32_w]
  rfl
 refine done_ (by kernel_rfl) ?_
 try go_wp2
 go_loopg [7, 8] k (fun kq v7 v8 w' => ∃ (x7_1 : Int) (x8_1 : Int), v7 = .int .i64 x7_1 ∧ v8 = .int .i64 x8_1 ∧ Aside0 (spec_l02Put.l0 kq l1 a2 x7_1 x8_1 a0_0 l0_1 = some (r1, r2)) ∧ Aside0 (kq ≤ k) ∧ Aside0 (Kd.V k74 74 w' w.heap.size (fun k_ => (P0_1_ k_ ∨ w.heap.size ≤ k_) ∧ k_ ≠ gb189 ∧ k_ ≠ gb190) (.slice A0_1 l0_1.length c0_1) l0_1) ∧ Aside0 (w'.heap[gb189]? = some (.cells #[.int .i64 a0_0, (.slice A0_1 l0_1.length c0_1)] 40 (0, 0))) ∧ Aside0 (w'.heap[gb190]? = some (.cells #[.int .i64 0, (.slice none 0 0)] 40 (0, 0))) ∧ Aside0 (Below w.heap.size w w'))
 case atStart => exact ⟨(0), ((l0_1.length : Int)), rs_, rs_, H', ⟨Nat.le_refl _⟩, ⟨by (with_reducible repeat (first | apply Kd.V_alloc | apply Kd.V_drewN | apply Kd.V_drew)); exact Kd.V_mono HO0_1.out (fun _ hk => ⟨hk.1.1, ⟨hk.1.2, hk.2⟩⟩)⟩, ⟨bkx_ BK189.out⟩, ⟨bkx_ BK190.out⟩, ⟨bb_⟩⟩
 case round =>
  clear H'
  try clear c1
  try clear p2
  obtain ⟨x7_1, x8_1, rfl, rfl, HA, HK1, HO_190001, BK189, BK190, HB⟩ := hrel
  cases gk with
  | zero => exact absurd HA.out (by simp [spec_l02Put.l0])
  | succ k1 =>
   have H := HA.out
   clear HA
   simp only [spec_l02Put.l0] at H
   by_cases c7 : x7_1 < x8_1
   ·rw [if_pos c7] at H
    have c7b0 : decide (x7_1 < x8_1) = true := decide_eq_true c7
    clear c7
    obtain ⟨ji8, hji8⟩ : ∃ j_ : Int, (wrap64 (Int.tdiv (wrap64 (x7_1 + x8_1)) 2)) = j_ := ⟨_, rfl⟩
    replace H : (if 0 ≤ (ji8) then (if (ji8) < (l0_1.length : Int) then ((spec_CompareRow.f k1 ((rd_T74 l0_1 (ji8)).f0) l1).bind fun t192 => (if t192 < 0 then (spec_l02Put.l0 k1 l1 a2 (wrap64 ((ji8) + 1)) x8_1 a0_0 l0_1) else (spec_l02Put.l0 k1 l1 a2 x7_1 ji8 a0_0 l0_1))) else (none)) else (none)) = some (r1, r2) := by first | (rw [hji8] at H; exact H) | (simp only [hji8] at H ⊢; exact H)
    have hji8w : (IntKind.i64.wrap (Int.tdiv (wrap64 (x7_1 + x8_1)) 2)) = ji8 := (i64_w _).trans hji8
    by_cases c9 : 0 ≤ (ji8)
    ·rw [if_pos c9] at H
     have c9b0 : decide (0 ≤ (ji8)) = true := decide_eq_true c9
     clear c9
     by_cases c10 : (ji8) < (l0_1.length : Int)
     ·rw [if_pos c10] at H
      have c10b0 : decide ((ji8) < (l0_1.length : Int)) = true := decide_eq_true c10
      clear c10
      replace H := Option.bind_eq_some_iff.mp H
      obtain ⟨t192, A110, H⟩ := H
      replace H : (if t192 < 0 then (spec_l02Put.l0 k1 l1 a2 (wrap64 ((ji8) + 1)) x8_1 a0_0 l0_1) else (spec_l02Put.l0 k1 l1 a2 x7_1 ji8 a0_0 l0_1)) = some (r1, r2) := H
      have A11 := Aside0.mk A110
      clear A110
      by_cases c12 : t192 < 0
      ·rw [if_pos c12] at H
       have c12b0 : decide (t192 < 0) = true := decide_eq_true c12
       clear c12
       have H' := Aside0.mk H
       clear H
       have hnb13 := NB189_190.out
       have hnc13 := NB190_189.out
       obtain ⟨hcz14_0, hcz14_1, hfz14_0, hfz14_1⟩ := b2_ BK189
       have p191 : 0 ≤ ((ji8) : Int) := od_
       have q191 : (ji8) < (l0_1.length : Int) := od_
       obtain ⟨ad191, A191_0, c191_0, e191, hx191_0, hx191_1, hl191_0, hi191_0⟩ := at_T74 (Kd.V_reads' HO_190001.out).2.2 (ji8) p191 q191
       cases e191
       obtain ⟨ce191, hce191, hMe191, hcc191⟩ := Kd.V_get HO_190001.out z74 (ji8) p191 (by first | exact q191 | exact od_ | (have e_ := (Kd.V_reads' HO_190001.out).1; omega))
       obtain ⟨ua191_0, uc191_0, rfl, ul191_0, ge191_0⟩ := k74_openF hMe191
       have hv191_0 := hcc191 0 _ rfl
       rw [Nat.add_zero] at hv191_0
       replace hv191_0 := Option.some.inj (hv191_0.symm.trans hx191_0)
       injection hv191_0 with hva_ hvn_ hvc_
       rw [hva_] at ge191_0
       rw [hvc_] at ul191_0
       have HL191_0 := Aside0.mk (show Kd.V k25 25 _ w.heap.size _ _ ((rd_T74 l0_1 (ji8)).f0) from Kd.V_mk ul191_0 ge191_0)
       clear hva_ hvn_ hvc_ ge191_0 ul191_0
       clear hcc191 hce191
       have HR191_0 := Aside0.mk hi191_0
       have HC191_0 := Aside0.mk hl191_0
       clear hi191_0 hl191_0
       replace p191 := eq_true p191
       replace q191 := eq_true q191
       go_wp2_with (first | ((with_reducible refine gate_callee (f := 75) rfl ?_); refine goesL_ (some 27) rfl rfl Try.func75 (by kernel_rfl) rfl #[.slice A191_0 ((rd_T74 l0_1 (ji8)).f0).length c191_0, .slice A1 l1.length c1] rfl (by (try simp only [List.map_toArray, List.map_cons, List.map_nil]); first | done | (simp only [hji8]; rfl) | rfl | (simp only [List.length_drop, List.length_take]; rfl)) ?_; (with_reducible refine (spec_CompareRow.calls k1 _ _ ((rd_T74 l0_1 (ji8)).f0) _ _ l1 t192 _ ?side1 ?side2 ?side3 ?side4 A11.out).mono ?_); (case side1 => exact ck_ (by repeat (first | (with_reducible exact HR191_0.out) | (with_reducible refine Kd.C_alloc ?_ _) | (with_reducible refine Kd.C_drewN ?_ _) | (with_reducible refine Kd.C_drew ?_) | exact HR191_0.out))); (case side2 => exact HC191_0.out); (case side3 => exact ck_ (Kd.C_below HR1.out HB.out)); (case side4 => exact HC1.out); rintro e w15 ⟨rfl, hb⟩; refine ⟨_, rfl, ?_⟩; replace HO_190001 := Aside0.mk (Kd.V_below (by (with_reducible repeat (first | apply Kd.V_alloc | apply Kd.V_drewN | apply Kd.V_drew)); exact HO_190001.out) hb); replace HL191_0 := Aside0.mk (Kd.V_below (by (with_reducible repeat (first | apply Kd.V_alloc | apply Kd.V_drewN | apply Kd.V_drew)); exact HL191_0.out) hb); replace BK189 := bkb_ BK189 hb; replace BK190 := bkb_ BK190 hb; replace HR191_0 := Aside0.mk (Kd.C_below (by repeat (first | (with_reducible exact HR191_0.out) | (with_reducible refine Kd.C_alloc ?_ _) | (with_reducible refine Kd.C_drewN ?_ _) | (with_reducible refine Kd.C_drew ?_) | exact HR191_0.out)) hb); replace HB := bs_ hb; (try clear hb); (try clear hb2); (try clear hk); (try clear hi)))
       go_roundg k1
       case measure => have := HK1.out; omega
       case rel => exact ⟨(wrap64 ((ji8) + 1)), (x8_1), (by first | rfl | (simp; done) | (simp only [← hji8] <;> (first | rfl | simp)) | (simp [*]; done)), rs_, H', ⟨by have := HK1.out; omega⟩, ⟨by (with_reducible repeat (first | apply Kd.V_alloc | apply Kd.V_drewN | apply Kd.V_drew)); exact HO_190001.out⟩, ⟨bkx_ BK189.out⟩, ⟨bkx_ BK190.out⟩, ⟨bb_⟩⟩
      ·rw [if_neg c12] at H
       have c12b0 : decide (t192 < 0) = false := decide_eq_false c12
       clear c12
       have H' := Aside0.mk H
       clear H
       have hnb16 := NB189_190.out
       have hnc16 := NB190_189.out
       obtain ⟨hcz17_0, hcz17_1, hfz17_0, hfz17_1⟩ := b2_ BK189
       have p191 : 0 ≤ ((ji8) : Int) := od_
       have q191 : (ji8) < (l0_1.length : Int) := od_
       obtain ⟨ad191, A191_0, c191_0, e191, hx191_0, hx191_1, hl191_0, hi191_0⟩ := at_T74 (Kd.V_reads' HO_190001.out).2.2 (ji8) p191 q191
       cases e191
       obtain ⟨ce191, hce191, hMe191, hcc191⟩ := Kd.V_get HO_190001.out z74 (ji8) p191 (by first | exact q191 | exact od_ | (have e_ := (Kd.V_reads' HO_190001.out).1; omega))
       obtain ⟨ua191_0, uc191_0, rfl, ul191_0, ge191_0⟩ := k74_openF hMe191
       have hv191_0 := hcc191 0 _ rfl
       rw [Nat.add_zero] at hv191_0
       replace hv191_0 := Option.some.inj (hv191_0.symm.trans hx191_0)
       injection hv191_0 with hva_ hvn_ hvc_
       rw [hva_] at ge191_0
       rw [hvc_] at ul191_0
       have HL191_0 := Aside0.mk (show Kd.V k25 25 _ w.heap.size _ _ ((rd_T74 l0_1 (ji8)).f0) from Kd.V_mk ul191_0 ge191_0)
       clear hva_ hvn_ hvc_ ge191_0 ul191_0
       clear hcc191 hce191
       have HR191_0 := Aside0.mk hi191_0
       have HC191_0 := Aside0.mk hl191_0
       clear hi191_0 hl191_0
       replace p191 := eq_true p191
       replace q191 := eq_true q191
       go_wp2_with (first | ((with_reducible refine gate_callee (f := 75) rfl ?_); refine goesL_ (some 27) rfl rfl Try.func75 (by kernel_rfl) rfl #[.slice A191_0 ((rd_T74 l0_1 (ji8)).f0).length c191_0, .slice A1 l1.length c1] rfl (by (try simp only [List.map_toArray, List.map_cons, List.map_nil]); first | done | (simp only [hji8]; rfl) | rfl | (simp only [List.length_drop, List.length_take]; rfl)) ?_; (with_reducible refine (spec_CompareRow.calls k1 _ _ ((rd_T74 l0_1 (ji8)).f0) _ _ l1 t192 _ ?side1 ?side2 ?side3 ?side4 A11.out).mono ?_); (case side1 => exact ck_ (by repeat (first | (with_reducible exact HR191_0.out) | (with_reducible refine Kd.C_alloc ?_ _) | (with_reducible refine Kd.C_drewN ?_ _) | (with_reducible refine Kd.C_drew ?_) | exact HR191_0.out))); (case side2 => exact HC191_0.out); (case side3 => exact ck_ (Kd.C_below HR1.out HB.out)); (case side4 => exact HC1.out); rintro e w18 ⟨rfl, hb⟩; refine ⟨_, rfl, ?_⟩; replace HO_190001 := Aside0.mk (Kd.V_below (by (with_reducible repeat (first | apply Kd.V_alloc | apply Kd.V_drewN | apply Kd.V_drew)); exact HO_190001.out) hb); replace HL191_0 := Aside0.mk (Kd.V_below (by (with_reducible repeat (first | apply Kd.V_alloc | apply Kd.V_drewN | apply Kd.V_drew)); exact HL191_0.out) hb); replace BK189 := bkb_ BK189 hb; replace BK190 := bkb_ BK190 hb; replace HR191_0 := Aside0.mk (Kd.C_below (by repeat (first | (with_reducible exact HR191_0.out) | (with_reducible refine Kd.C_alloc ?_ _) | (with_reducible refine Kd.C_drewN ?_ _) | (with_reducible refine Kd.C_drew ?_) | exact HR191_0.out)) hb); replace HB := bs_ hb; (try clear hb); (try clear hb2); (try clear hk); (try clear hi)))
       go_roundg k1
       case measure => have := HK1.out; omega
       case rel => exact ⟨(x7_1), (ji8), rs_, (by first | rfl | (simp; done) | (simp only [← hji8] <;> (first | rfl | simp)) | (simp [*]; done)), H', ⟨by have := HK1.out; omega⟩, ⟨by (with_reducible repeat (first | apply Kd.V_alloc | apply Kd.V_drewN | apply Kd.V_drew)); exact HO_190001.out⟩, ⟨bkx_ BK189.out⟩, ⟨bkx_ BK190.out⟩, ⟨bb_⟩⟩
     ·rw [if_neg c10] at H
      exact absurd H (by simp)
    ·rw [if_neg c9] at H
     exact absurd H (by simp)
   ·rw [if_neg c7] at H
    have c7b0 : decide (x7_1 < x8_1) = false := decide_eq_false c7
    clear c7
    have HC19 := Aside0.mk H
    clear H
    go_upto_region 7 with (fail)
    go_cut [47] (fun v47 wc => ∃ (kq : Nat) (x47_18 : Bool), v47 = .bool x47_18 ∧ Aside0 (spec_l02Put.j1 kq l1 a2 x7_1 x47_18 a0_0 l0_1 = some (r1, r2)) ∧ Aside0 (kq ≤ k1) ∧ Aside0 (Kd.V k74 74 wc w.heap.size (fun k_ => (P0_1_ k_ ∨ w.heap.size ≤ k_) ∧ k_ ≠ gb189 ∧ k_ ≠ gb190) (.slice A0_1 l0_1.length c0_1) l0_1) ∧ Aside0 (wc.heap[gb189]? = some (.cells #[.int .i64 a0_0, (.slice A0_1 l0_1.length c0_1)] 40 (0, 0))) ∧ Aside0 (wc.heap[gb190]? = some (.cells #[.int .i64 0, (.slice none 0 0)] 40 (0, 0))) ∧ Aside0 (Below w.heap.size w wc))
    case first =>
     have H := HC19.out
     clear HC19
     by_cases c20 : x7_1 < (l0_1.length : Int)
     ·rw [if_pos c20] at H
      have c20b0 : decide (x7_1 < (l0_1.length : Int)) = true := decide_eq_true c20
      clear c20
      (first | rw [c20b0] | (simp only [i64_w, i32_w]; rw [c20b0]) | skip)
      by_cases c21 : 0 ≤ x7_1
      ·rw [if_pos c21] at H
       have c21b0 : decide (0 ≤ x7_1) = true := decide_eq_true c21
       clear c21
       replace H := Option.bind_eq_some_iff.mp H
       obtain ⟨t194, A220, H⟩ := H
       replace H : (spec_l02Put.j1 k1 l1 a2 x7_1 (t194 == 0) a0_0 l0_1) = some (r1, r2) := H
       have A22 := Aside0.mk A220
       clear A220
       have H' := Aside0.mk H
       clear H
       have hnb23 := NB189_190.out
       have hnc23 := NB190_189.out
       obtain ⟨hcz24_0, hcz24_1, hfz24_0, hfz24_1⟩ := b2_ BK189
       have p193 : 0 ≤ (x7_1 : Int) := od_
       have q193 : x7_1 < (l0_1.length : Int) := od_
       obtain ⟨ad193, A193_0, c193_0, e193, hx193_0, hx193_1, hl193_0, hi193_0⟩ := at_T74 (Kd.V_reads' HO_190001.out).2.2 x7_1 p193 q193
       cases e193
       obtain ⟨ce193, hce193, hMe193, hcc193⟩ := Kd.V_get HO_190001.out z74 x7_1 p193 (by first | exact q193 | exact od_ | (have e_ := (Kd.V_reads' HO_190001.out).1; omega))
       obtain ⟨ua193_0, uc193_0, rfl, ul193_0, ge193_0⟩ := k74_openF hMe193
       have hv193_0 := hcc193 0 _ rfl
       rw [Nat.add_zero] at hv193_0
       replace hv193_0 := Option.some.inj (hv193_0.symm.trans hx193_0)
       injection hv193_0 with hva_ hvn_ hvc_
       rw [hva_] at ge193_0
       rw [hvc_] at ul193_0
       have HL193_0 := Aside0.mk (show Kd.V k25 25 _ w.heap.size _ _ ((rd_T74 l0_1 x7_1).f0) from Kd.V_mk ul193_0 ge193_0)
       clear hva_ hvn_ hvc_ ge193_0 ul193_0
       clear hcc193 hce193
       have HR193_0 := Aside0.mk hi193_0
       have HC193_0 := Aside0.mk hl193_0
       clear hi193_0 hl193_0
       replace p193 := eq_true p193
       replace q193 := eq_true q193
       go_wp2_with (first | (go_at_call 75; (with_reducible refine (spec_CompareRow.calls k1 _ _ ((rd_T74 l0_1 x7_1).f0) _ _ l1 t194 _ ?side1 ?side2 ?side3 ?side4 A22.out).mono ?_); (case side1 => exact ck_ (by repeat (first | (with_reducible exact HR193_0.out) | (with_reducible refine Kd.C_alloc ?_ _) | (with_reducible refine Kd.C_drewN ?_ _) | (with_reducible refine Kd.C_drew ?_) | exact HR193_0.out))); (case side2 => exact HC193_0.out); (case side3 => exact ck_ (Kd.C_below HR1.out HB.out)); (case side4 => exact HC1.out); rintro e w25 ⟨rfl, hb⟩; have n0_ := Aside0.mk (Kd.V_below (by (with_reducible repeat (first | apply Kd.V_alloc | apply Kd.V_drewN | apply Kd.V_drew)); exact HO_190001.out) hb); have n1_ := Aside0.mk (Kd.V_below (by (with_reducible repeat (first | apply Kd.V_alloc | apply Kd.V_drewN | apply Kd.V_drew)); exact HL193_0.out) hb); have n2_ := bkb_ BK189 hb; have n3_ := bkb_ BK190 hb; have n4_ := Aside0.mk (Kd.C_below (by repeat (first | (with_reducible exact HR193_0.out) | (with_reducible refine Kd.C_alloc ?_ _) | (with_reducible refine Kd.C_drewN ?_ _) | (with_reducible refine Kd.C_drew ?_) | exact HR193_0.out)) hb); have n5_ := bs_ hb; clear HO_190001; clear HL193_0; clear BK189; clear BK190; clear HR193_0; clear HB; have HO_190001 := n0_; have HL193_0 := n1_; have BK189 := n2_; have BK190 := n3_; have HR193_0 := n4_; have HB := n5_; clear n0_ n1_ n2_ n3_ n4_ n5_; (try clear hb); (try clear hb2); (try clear hk); (try clear hi)))
       go_meet
       case rel => exact ⟨_, ((t194 == 0)), rs_, H', ⟨by have := HK1.out; first | omega | exact Nat.le_refl _⟩, ⟨by (with_reducible repeat (first | apply Kd.V_alloc | apply Kd.V_drewN | apply Kd.V_drew)); exact HO_190001.out⟩, ⟨bkx_ BK189.out⟩, ⟨bkx_ BK190.out⟩, ⟨bb_⟩⟩
      ·rw [if_neg c21] at H
       exact absurd H (by simp)
     ·rw [if_neg c20] at H
      have c20b0 : decide (x7_1 < (l0_1.length : Int)) = false := decide_eq_false c20
      clear c20
      (first | rw [c20b0] | (simp only [i64_w, i32_w]; rw [c20b0]) | skip)
      have H' := Aside0.mk H
      clear H
      have hnb26 := NB189_190.out
      have hnc26 := NB190_189.out
      obtain ⟨hcz27_0, hcz27_1, hfz27_0, hfz27_1⟩ := b2_ BK189
      go_wp2
      go_meet
      case rel => exact ⟨_, (false), rs_, H', ⟨by have := HK1.out; first | omega | exact Nat.le_refl _⟩, ⟨by (with_reducible repeat (first | apply Kd.V_alloc | apply Kd.V_drewN | apply Kd.V_drew)); exact HO_190001.out⟩, ⟨bkx_ BK189.out⟩, ⟨bkx_ BK190.out⟩, ⟨bb_⟩⟩
    case rest =>
     clear HC19
     try clear c1
     try clear p1
     try clear q1
     try clear hx1
     try clear c2
     try clear p2
     try clear c6
     try clear p6
     try clear c7
     try clear c7b0
     try clear c9
     try clear c9b0
     try clear c10
     try clear c10b0
     try clear c12
     try clear c12b0
     try clear c13
     try clear c16
     try clear c19
     try clear p19
     try clear q19
     try clear hx19
     try clear c20
     try clear c20b0
     try clear c21
     try clear c21b0
     try clear c23
     try clear c26
     try clear hcz14_0
     try clear hcz14_1
     try clear hcz17_0
     try clear hcz17_1
     try clear hcz24_0
     try clear hcz24_1
     try clear hcz27_0
     try clear hcz27_1
     try clear hfz14_0
     try clear hfz14_1
     try clear hfz17_0
     try clear hfz17_1
     try clear hfz24_0
     try clear hfz24_1
     try clear hfz27_0
     try clear hfz27_1
     try clear hx191_0
     try clear hx191_1
     try clear hx193_0
     try clear hx193_1
     try clear p191
     try clear p193
     try clear p2
     try clear q191
     try clear q193
     obtain ⟨kq, x47_18, rfl, HA, HJ18, HO_190001, BK189, BK190, HB⟩ := hcut
     cases kq with
     | zero => exact absurd HA.out (by simp [spec_l02Put.j1])
     | succ kj18 =>
      have H := HA.out
      clear HA
      simp only [spec_l02Put.j1] at H
      by_cases c28 : x47_18 = true
      ·subst c28
       have H1 : (if 0 ≤ x7_1 then (if x7_1 < (l0_1.length : Int) then (if (wrap64 (a2 + ((rd_T74 l0_1 x7_1).f1))) = 0 then ((some (([] : List (S74)) : List (S74))).bind fun y196 => (if x7_1 ≤ (l0_1.length : Int) then ((some (l0_1.take (x7_1 : Int).toNat : List (S74))).bind fun y199 => (if y196.length + y199.length < 4398046511104 then ((some (y196 ++ y199 : List (S74))).bind fun y204 => (if 0 ≤ (wrap64 (x7_1 + 1)) then (if (wrap64 (x7_1 + 1)) ≤ (l0_1.length : Int) then ((some (l0_1.drop ((wrap64 (x7_1 + 1)) : Int).toNat : List (S74))).bind fun y207 => (if y204.length + y207.length < 4398046511104 then (some (a0_0, (y204 ++ y207))) else (none))) else (none)) else (none))) else (none))) else (none))) else (some (a0_0, (l0_1.set (x7_1 : Int).toNat (⟨(rd_T74 l0_1 x7_1).f0, wrap64 (a2 + (rd_T74 l0_1 x7_1).f1)⟩ : S74))))) else (none)) else (none)) = some (r1, r2) := by rw [if_pos rfl] at H; exact H
       clear H
       have H := H1
       clear H1
       by_cases c29 : 0 ≤ x7_1
       ·rw [if_pos c29] at H
        have c29b0 : decide (0 ≤ x7_1) = true := decide_eq_true c29
        clear c29
        by_cases c30 : x7_1 < (l0_1.length : Int)
        ·rw [if_pos c30] at H
         have c30b0 : decide (x7_1 < (l0_1.length : Int)) = true := decide_eq_true c30
         clear c30
         by_cases c31 : (wrap64 (a2 + ((rd_T74 l0_1 x7_1).f1))) = 0
         ·rw [if_pos c31] at H
          have c31b0 : ((wrap64 (a2 + ((rd_T74 l0_1 x7_1).f1))) == 0) = true := beq_iff_eq.mpr c31
          have c31b1 : ((wrap64 (a2 + ((rd_T74 l0_1 x7_1).f1))) != 0) = false := bne_eq_false_iff_eq.mpr c31
          clear c31
          obtain ⟨y196, hy196⟩ : ∃ y_ : List (S74), y_ = (([] : List (S74))) := ⟨_, rfl⟩
          replace H : (if x7_1 ≤ (l0_1.length : Int) then ((some (l0_1.take (x7_1 : Int).toNat : List (S74))).bind fun y199 => (if y196.length + y199.length < 4398046511104 then ((some (y196 ++ y199 : List (S74))).bind fun y204 => (if 0 ≤ (wrap64 (x7_1 + 1)) then (if (wrap64 (x7_1 + 1)) ≤ (l0_1.length : Int) then ((some (l0_1.drop ((wrap64 (x7_1 + 1)) : Int).toNat : List (S74))).bind fun y207 => (if y204.length + y207.length < 4398046511104 then (some (a0_0, (y204 ++ y207))) else (none))) else (none)) else (none))) else (none))) else (none)) = some (r1, r2) := by first | (rw [hy196]; with_reducible exact H) | (have H2_ := (Option.bind_some _ _).symm.trans H; rw [hy196]; with_reducible exact H2_) | (have H2_ := (Option.bind_some _ _).symm.trans H; with_reducible exact H2_) | with_reducible exact H | (rw [hy196]; exact H) | exact H
          have Ny196 := Aside0.mk hy196
          clear hy196
          have c32b0 := eq_true (od_ : 0 ≤ x7_1)
          by_cases c33 : x7_1 ≤ (l0_1.length : Int)
          ·rw [if_pos c33] at H
           have c33b0 := eq_true c33
           have c33b1 : decide (x7_1 ≤ (l0_1.length : Int)) = true := decide_eq_true c33
           clear c33
           obtain ⟨y199, hy199⟩ : ∃ y_ : List (S74), y_ = (l0_1.take (x7_1 : Int).toNat) := ⟨_, rfl⟩
           replace H : (if y196.length + y199.length < 4398046511104 then ((some (y196 ++ y199 : List (S74))).bind fun y204 => (if 0 ≤ (wrap64 (x7_1 + 1)) then (if (wrap64 (x7_1 + 1)) ≤ (l0_1.length : Int) then ((some (l0_1.drop ((wrap64 (x7_1 + 1)) : Int).toNat : List (S74))).bind fun y207 => (if y204.length + y207.length < 4398046511104 then (some (a0_0, (y204 ++ y207))) else (none))) else (none)) else (none))) else (none)) = some (r1, r2) := by first | (rw [hy199]; with_reducible exact H) | (have H2_ := (Option.bind_some _ _).symm.trans H; rw [hy199]; with_reducible exact H2_) | (have H2_ := (Option.bind_some _ _).symm.trans H; with_reducible exact H2_) | with_reducible exact H | (rw [hy199]; exact H) | exact H
           have Ny199 := Aside0.mk hy199
           clear hy199
           by_cases c34 : y196.length + y199.length < 4398046511104
           ·rw [if_pos c34] at H
            have LMc34 := Aside0.mk c34
            clear c34
            obtain ⟨y204, hy204⟩ : ∃ y_ : List (S74), y_ = (y196 ++ y199) := ⟨_, rfl⟩
            replace H : (if 0 ≤ (wrap64 (x7_1 + 1)) then (if (wrap64 (x7_1 + 1)) ≤ (l0_1.length : Int) then ((some (l0_1.drop ((wrap64 (x7_1 + 1)) : Int).toNat : List (S74))).bind fun y207 => (if y204.length + y207.length < 4398046511104 then (some (a0_0, (y204 ++ y207))) else (none))) else (none)) else (none)) = some (r1, r2) := by first | (rw [hy204]; with_reducible exact H) | (have H2_ := (Option.bind_some _ _).symm.trans H; rw [hy204]; with_reducible exact H2_) | (have H2_ := (Option.bind_some _ _).symm.trans H; with_reducible exact H2_) | with_reducible exact H | (rw [hy204]; exact H) | exact H
            have Ny204 := Aside0.mk hy204
            clear hy204
            obtain ⟨ji35, hji35⟩ : ∃ j_ : Int, (wrap64 (x7_1 + 1)) = j_ := ⟨_, rfl⟩
            replace H : (if 0 ≤ (ji35) then (if (ji35) ≤ (l0_1.length : Int) then ((some (l0_1.drop ((ji35) : Int).toNat : List (S74))).bind fun y207 => (if y204.length + y207.length < 4398046511104 then (some (a0_0, (y204 ++ y207))) else (none))) else (none)) else (none)) = some (r1, r2) := by first | (rw [hji35] at H; exact H) | (simp only [hji35] at H ⊢; exact H)
            have hji35w : (IntKind.i64.wrap (x7_1 + 1)) = ji35 := (i64_w _).trans hji35
            by_cases c36 : 0 ≤ (ji35)
            ·rw [if_pos c36] at H
             have c36b0 := eq_true c36
             have c36b1 : decide (0 ≤ (ji35)) = true := decide_eq_true c36
             clear c36
             by_cases c37 : (ji35) ≤ (l0_1.length : Int)
             ·rw [if_pos c37] at H
              have c37b0 := eq_true c37
              have c37b1 : decide ((ji35) ≤ (l0_1.length : Int)) = true := decide_eq_true c37
              clear c37
              obtain ⟨y207, hy207⟩ : ∃ y_ : List (S74), y_ = (l0_1.drop ((ji35) : Int).toNat) := ⟨_, rfl⟩
              replace H : (if y204.length + y207.length < 4398046511104 then (some (a0_0, (y204 ++ y207))) else (none)) = some (r1, r2) := by first | (rw [hy207]; with_reducible exact H) | (have H2_ := (Option.bind_some _ _).symm.trans H; rw [hy207]; with_reducible exact H2_) | (have H2_ := (Option.bind_some _ _).symm.trans H; with_reducible exact H2_) | with_reducible exact H | (rw [hy207]; exact H) | exact H
              have Ny207 := Aside0.mk hy207
              clear hy207
              by_cases c38 : y204.length + y207.length < 4398046511104
              ·rw [if_pos c38] at H
               have LMc38 := Aside0.mk c38
               clear c38
               obtain ⟨y212, hy212⟩ : ∃ y_ : List (S74), y_ = (y204 ++ y207) := ⟨_, rfl⟩
               replace H : (some (a0_0, y212)) = some (r1, r2) := by first | (rw [hy212]; with_reducible exact H) | (have H2_ := (Option.bind_some _ _).symm.trans H; rw [hy212]; with_reducible exact H2_) | (have H2_ := (Option.bind_some _ _).symm.trans H; with_reducible exact H2_) | with_reducible exact H | (rw [hy212]; exact H) | exact H
               have Ny212 := Aside0.mk hy212
               clear hy212
               simp only [Option.some.injEq, Prod.mk.injEq] at H
               obtain ⟨rfl, rfl⟩ := H
               have hnb39 := NB189_190.out
               have hnc39 := NB190_189.out
               obtain ⟨hcz40_0, hcz40_1, hfz40_0, hfz40_1⟩ := b2_ BK189
               have p195 : 0 ≤ (x7_1 : Int) := od_
               have q195 : x7_1 < (l0_1.length : Int) := od_
               obtain ⟨ad195, A195_0, c195_0, e195, hx195_0, hx195_1, hl195_0, hi195_0⟩ := at_T74 (Kd.V_reads' HO_190001.out).2.2 x7_1 p195 q195
               cases e195
               obtain ⟨ce195, hce195, hMe195, hcc195⟩ := Kd.V_get HO_190001.out z74 x7_1 p195 (by first | exact q195 | exact od_ | (have e_ := (Kd.V_reads' HO_190001.out).1; omega))
               obtain ⟨ua195_0, uc195_0, rfl, ul195_0, ge195_0⟩ := k74_openF hMe195
               have hv195_0 := hcc195 0 _ rfl
               rw [Nat.add_zero] at hv195_0
               replace hv195_0 := Option.some.inj (hv195_0.symm.trans hx195_0)
               injection hv195_0 with hva_ hvn_ hvc_
               rw [hva_] at ge195_0
               rw [hvc_] at ul195_0
               have HL195_0 := Aside0.mk (show Kd.V k25 25 _ w.heap.size _ _ ((rd_T74 l0_1 x7_1).f0) from Kd.V_mk ul195_0 ge195_0)
               clear hva_ hvn_ hvc_ ge195_0 ul195_0
               clear hcc195 hce195
               have HR195_0 := Aside0.mk hi195_0
               have HC195_0 := Aside0.mk hl195_0
               clear hi195_0 hl195_0
               replace p195 := eq_true p195
               replace q195 := eq_true q195
               try go_wp2
               replace HO_190001 := Aside0.mk (Kd.V_drew HO_190001.out)
               replace HL195_0 := Aside0.mk (Kd.V_drew HL195_0.out)
               replace BK189 := Aside0.mk (blk_drew BK189.out)
               replace BK190 := Aside0.mk (blk_drew BK190.out)
               replace HR195_0 := Aside0.mk (Kd.C_drew HR195_0.out)
               replace HB := Aside0.mk (below_drew1 HB.out)
               have q42 : (x7_1 : Int) ≤ ((l0_1.length : Int) : Int) := od_
               obtain ⟨i042, hi042, _, hsz42, _⟩ := info_parts info74
               have hroom42 : l0_1.length ≤ c0_1 := (Kd.V_reads' HO_190001.out).2.1
               have hC42 : Kd.F k74 _ _ (some ad195) l0_1.length l0_1 := (Kd.V_at (base := w.heap.size) HO_190001.out).2.2
               have hcut42 := cut_to (P := Try.prog) 38 74 .i64 Try.underlying38 hi042 (some ad195) l0_1.length c0_1 x7_1 od_ q42 hroom42
               have hr42 := Kd.F_take (m := (x7_1 : Int).toNat) hC42 (by omega)
               have hy42 : y199.length = (x7_1 : Int).toNat := (by rw [Ny199.out, List.length_take]; omega)
               rw [← Ny199.out] at hr42
               rw [← hy42] at hcut42
               have HO203 := Aside0.mk (show Kd.V k74 74 _ w.heap.size _ (.slice (some ad195) y199.length c0_1) y199 from Kd.V_mk (by omega) hr42)
               have HC203 := Aside0.mk (show y199.length ≤ c0_1 from by omega)
               clear hr42 hC42 hroom42 hi042 hsz42
               have KY42 := Aside0.mk hy42
               clear hy42
               replace q42 := eq_true q42
               have q43 : ((ji35) : Int) ≤ ((l0_1.length : Int) : Int) := od_
               obtain ⟨i043, hi043, _, hsz43, _⟩ := info_parts info74
               have hroom43 : l0_1.length ≤ c0_1 := (Kd.V_reads' HO_190001.out).2.1
               have hC43 : Kd.F k74 _ _ (some ad195) l0_1.length l0_1 := (Kd.V_at (base := w.heap.size) HO_190001.out).2.2
               have q043 : (0 : Int) ≤ ((ji35) : Int) := od_
               have hcut43 := cut_from (P := Try.prog) 38 74 .i64 Try.underlying38 hi043 2 hsz43 (some ad195) l0_1.length c0_1 (ji35) q043 q43
               have hr43 := Kd.F_cut (m := ((ji35) : Int).toNat) (c := c0_1) hC43 (by omega) hroom43
               obtain ⟨A43, hA43⟩ : ∃ A1, A1 = (if c0_1 = ((ji35) : Int).toNat then (some ad195) else ((some ad195) : Option Addr).map (·.add (((ji35) : Int).toNat * 2))) := ⟨_, rfl⟩
               obtain ⟨c43, hc43⟩ : ∃ c1, c1 = c0_1 - ((ji35) : Int).toNat := ⟨_, rfl⟩
               have hy43 : y207.length = l0_1.length - ((ji35) : Int).toNat := (by rw [Ny207.out, List.length_drop] <;> omega)
               rw [show (l0_1).drop ((ji35) : Int).toNat = y207 from Ny207.out.symm] at hr43
               replace hr43 : Kd.F k74 _ _ A43 y207.length y207 := (by rw [hA43]; exact hr43)
               rw [← hy43, ← hA43, ← hc43] at hcut43
               have HO211 := Aside0.mk (show Kd.V k74 74 _ w.heap.size _ (.slice A43 y207.length c43) y207 from Kd.V_mk (by rw [hy43, hc43]; exact Nat.sub_le_sub_right hroom43 _) hr43)
               have HC211 := Aside0.mk (show y207.length ≤ c43 from by rw [hy43, hc43]; exact Nat.sub_le_sub_right hroom43 _)
               clear hr43 hC43 hroom43 hi043 hsz43 hc43
               have KY43 := Aside0.mk hy43
               have KA43 := Aside0.mk hA43
               clear hy43 hA43
               replace q43 := eq_true q43
               refine start_ (n := 14) (S := fun w' => w'.cell? ⟨gb189, 0, none⟩ = some (.int .i64 a0_0) ∧ w'.cell? ⟨gb189, 1, none⟩ = some (.slice (some ad195) l0_1.length c0_1)) (ds := [13]) (tf 0 14) (by kernel_rfl) rfl rfl ⟨bc_ BK189 0, bc_ BK189 1⟩ (fun hHeld => ?_); refine with_tabW spec_l02Put.tab12 spec_l02Put.bits12 (fun HT_ HW_ => ?_)
               generalize wc.drew = w41 at HO_190001 HL195_0 BK189 BK190 HR195_0 HB HO203 HO211 hHeld ⊢
               refine plx_ 1 #[false, true, false, false, false, false, false, false, false, false, false, false, false, false] ?_
               refine plx_ 3 #[false, true, false, true, false, false, false, false, false, false, false, false, false, false] ?_
               refine plx_ 6 #[false, true, false, true, false, false, true, false, false, false, false, false, false, false] ?_
               refine plx_ 8 #[false, true, false, true, false, false, true, false, true, false, false, false, false, false] ?_
               refine plx_ 9 #[false, true, false, true, false, false, true, false, true, true, false, false, false, false] ?_
               refine tlx_ 2 #[false, true, true, true, false, false, true, false, true, true, false, false, false, false] ?_
               refine plx_ 4 #[false, true, true, true, true, false, true, false, true, true, false, false, false, false] ?_
               refine tlx_ 7 #[false, true, true, true, true, false, true, true, true, true, false, false, false, false] ?_
               refine plx_ 10 #[false, true, true, true, true, false, true, true, true, true, true, false, false, false] ?_
               refine one_ (i := 0) (N := some 65) #[true, true, true, true, true, false, true, true, true, true, true, false, false, false] rfl rfl (one_of HT_.out (by kernel_rfl)) (by decide) (fun K hK => ?_)
               refine Kd.N_lit_step k74 _ 74 ?hg (N' := 65) ?hd (xs := ([] : List (S74))) (inner := []) (ok := (fun k_ => (P0_1_ k_ ∨ w.heap.size ≤ k_) ∧ k_ ≠ gb189 ∧ k_ ≠ gb190)) (okp := (fun k_ => (P0_1_ k_ ∨ w.heap.size ≤ k_) ∧ k_ ≠ gb189 ∧ k_ ≠ gb190)) ?hr ?hp (fun _ hk => hk) ((show ∀ k_, w41.heap.size ≤ k_ → (fun k_ => (P0_1_ k_ ∨ w.heap.size ≤ k_) ∧ k_ ≠ gb189 ∧ k_ ≠ gb190) k_ from fun k_ hk => ⟨(.inr (Nat.le_trans (below_size bb_) hk)), Kd.freshB (g := gb189) (o := .cells #[.int .i64 a0_0, .slice (some ad195) l0_1.length c0_1] 40 (0, 0)) (bkx_ BK189.out) k_ hk, Kd.freshB (g := gb190) (o := .cells #[.int .i64 0, .slice none 0 0] 40 (0, 0)) (bkx_ BK190.out) k_ hk⟩) _ (Nat.le_refl _)) (Below.refl _ _) (Nat.le_refl _) (by simp) ?_; (case hd => rfl); (case hg => rfl); (case hr => first | (go_simp; done) | (go_simp; rfl)); (case hp => exact (Reps.none _ _))
               intro v197 w44 ho45 hb hg_ hnew_
               clear hg_ hnew_
               (first | rw [← Ny196.out] at ho45 | (simp only [Int.reduceToNat] at ho45; rw [← Ny196.out] at ho45))
               have HO198 := Aside0.mk (Kd.N_lower ho45 (below_size bb_))
               replace HO_190001 := Aside0.mk (Kd.V_elder' (by (with_reducible repeat (first | apply Kd.V_alloc | apply Kd.V_drewN | apply Kd.V_drew)); exact HO_190001.out) (Kd.N_base ho45) hb)
               replace HL195_0 := Aside0.mk (Kd.V_elder' (by (with_reducible repeat (first | apply Kd.V_alloc | apply Kd.V_drewN | apply Kd.V_drew)); exact HL195_0.out) (Kd.N_base ho45) hb)
               replace HO203 := Aside0.mk (Kd.V_elder' (by (with_reducible repeat (first | apply Kd.V_alloc | apply Kd.V_drewN | apply Kd.V_drew)); exact HO203.out) (Kd.N_base ho45) hb)
               replace HO211 := Aside0.mk (Kd.V_elder' (by (with_reducible repeat (first | apply Kd.V_alloc | apply Kd.V_drewN | apply Kd.V_drew)); exact HO211.out) (Kd.N_base ho45) hb)
               replace BK189 := bkb_ BK189 hb
               replace BK190 := bkb_ BK190 hb
               replace HR195_0 := Aside0.mk (Kd.C_below (by repeat (first | (with_reducible exact HR195_0.out) | (with_reducible refine Kd.C_alloc ?_ _) | (with_reducible refine Kd.C_drewN ?_ _) | (with_reducible refine Kd.C_drew ?_) | exact HR195_0.out)) hb)
               replace HB := bs_ hb
               clear hb ho45
               refine hK.out _ _ ⟨bc_ BK189 0, bc_ BK189 1⟩ (fun hHeld => ?_)
               clear hK K
               refine nm_ ?_
               refine one_ (i := 5) (N := some 70) (tf 11 3) rfl rfl (one_of HT_.out (by kernel_rfl)) (by decide) (fun K hK => ?_)
               refine Kd.N_append_rows_step k74 (w0 := w) w.heap.size (by rfl) (.tmp 65) (.tmp 69) 38 74 (.agg #[(.slice none 0 0), (.int .i64 0)]) 32 rfl Try.underlying38 info74 rfl (by decide) (by omega) v197 y196 y199 _ _ _ (fun k_ => (P0_1_ k_ ∨ w.heap.size ≤ k_) ∧ k_ ≠ gb189 ∧ k_ ≠ gb190) (fun k_ => ((fun k_ => (P0_1_ k_ ∨ w.heap.size ≤ k_) ∧ k_ ≠ gb189 ∧ k_ ≠ gb190)) k_ ∧ some k_ ≠ (v197 : Value).ownBlock) rfl rfl ?aO ?aR (fun _ hk => hk) ?aF ?aB ?aS ?aL ?_
               (case aR => exact (by skip; exact Kd.V_F (Kd.V_mono (ok' := (fun k_ => ((fun k_ => (P0_1_ k_ ∨ w.heap.size ≤ k_) ∧ k_ ≠ gb189 ∧ k_ ≠ gb190)) k_ ∧ some k_ ≠ (v197 : Value).ownBlock)) (HO203.out) (fun k_ hk => ⟨⟨hk.1.1, ⟨hk.1.2.1, hk.1.2.2⟩⟩, hk.2⟩))))
               (case aB => exact bb_)
               (case aF => exact (fun k_ hk => ⟨(.inr (Nat.le_trans (below_size bb_) hk)), Kd.freshB (g := gb189) (o := .cells #[.int .i64 a0_0, .slice (some ad195) l0_1.length c0_1] 40 (0, 0)) (bkx_ BK189.out) k_ hk, Kd.freshB (g := gb190) (o := .cells #[.int .i64 0, .slice none 0 0] 40 (0, 0)) (bkx_ BK190.out) k_ hk⟩))
               (case aO => exact (by (with_reducible repeat (first | apply Kd.N_alloc | apply Kd.N_drewN | apply Kd.N_drew)); exact HO198.out))
               (case aS => exact (below_size bb_))
               (case aL => have := LMc34.out; omega)
               intro v205 w46 ho hb hg hat
               rw [← Ny204.out] at ho
               have HO206 := Aside0.mk (ho)
               replace HO_190001 := Aside0.mk (Kd.V_afterv (ok := (fun k_ => (P0_1_ k_ ∨ w.heap.size ≤ k_) ∧ k_ ≠ gb189 ∧ k_ ≠ gb190)) (by (with_reducible repeat (first | apply Kd.V_alloc | apply Kd.V_drewN | apply Kd.V_drew)); exact HO_190001.out) hg hat)
               replace BK189 := Aside0.mk (blk_grown (g := gb189) (o := .cells #[.int .i64 a0_0, .slice (some ad195) l0_1.length c0_1] 40 (0, 0)) (bkx_ BK189.out) hg (Kd.N_ne HO198.out BK189.out (by decide)))
               replace BK190 := Aside0.mk (blk_grown (g := gb190) (o := .cells #[.int .i64 0, .slice none 0 0] 40 (0, 0)) (bkx_ BK190.out) hg (Kd.N_ne HO198.out BK190.out (by decide)))
               replace HL195_0 := Aside0.mk (Kd.V_afterv (ok := (fun k_ => (P0_1_ k_ ∨ w.heap.size ≤ k_) ∧ k_ ≠ gb189 ∧ k_ ≠ gb190)) (by (with_reducible repeat (first | apply Kd.V_alloc | apply Kd.V_drewN | apply Kd.V_drew)); exact HL195_0.out) hg hat)
               replace HO203 := Aside0.mk (Kd.V_afterv (ok := (fun k_ => (P0_1_ k_ ∨ w.heap.size ≤ k_) ∧ k_ ≠ gb189 ∧ k_ ≠ gb190)) (by (with_reducible repeat (first | apply Kd.V_alloc | apply Kd.V_drewN | apply Kd.V_drew)); exact HO203.out) hg hat)
               replace HO211 := Aside0.mk (Kd.V_afterv (ok := (fun k_ => (P0_1_ k_ ∨ w.heap.size ≤ k_) ∧ k_ ≠ gb189 ∧ k_ ≠ gb190)) (by (with_reducible repeat (first | apply Kd.V_alloc | apply Kd.V_drewN | apply Kd.V_drew)); exact HO211.out) hg hat)
               replace HB := Aside0.mk (hb)
               clear HO198
               clear ho hb hg hat
               refine hK.out _ _ ⟨bc_ BK189 0, bc_ BK189 1⟩ (fun hHeld => ?_)
               clear hK K
               refine nm_ ?_
               refine one_ (i := 11) (N := some 76) (tf 12 2) rfl rfl (one_of HT_.out (by kernel_rfl)) (by decide) (fun K hK => ?_)
               refine Kd.N_append_rows_step k74 (w0 := w) w.heap.size (by rfl) (.tmp 70) (.tmp 75) 38 74 (.agg #[(.slice none 0 0), (.int .i64 0)]) 32 rfl Try.underlying38 info74 rfl (by decide) (by omega) v205 y204 y207 _ _ _ (fun k_ => (P0_1_ k_ ∨ w.heap.size ≤ k_) ∧ k_ ≠ gb189 ∧ k_ ≠ gb190) (fun k_ => ((fun k_ => (P0_1_ k_ ∨ w.heap.size ≤ k_) ∧ k_ ≠ gb189 ∧ k_ ≠ gb190)) k_ ∧ some k_ ≠ (v205 : Value).ownBlock) rfl rfl ?aO ?aR (fun _ hk => hk) ?aF ?aB ?aS ?aL ?_
               (case aR => exact (by skip; exact Kd.V_F (Kd.V_mono (ok' := (fun k_ => ((fun k_ => (P0_1_ k_ ∨ w.heap.size ≤ k_) ∧ k_ ≠ gb189 ∧ k_ ≠ gb190)) k_ ∧ some k_ ≠ (v205 : Value).ownBlock)) (HO211.out) (fun k_ hk => ⟨⟨hk.1.1, ⟨hk.1.2.1, hk.1.2.2⟩⟩, hk.2⟩))))
               (case aB => exact bb_)
               (case aF => exact (fun k_ hk => ⟨(.inr (Nat.le_trans (below_size bb_) hk)), Kd.freshB (g := gb189) (o := .cells #[.int .i64 a0_0, .slice (some ad195) l0_1.length c0_1] 40 (0, 0)) (bkx_ BK189.out) k_ hk, Kd.freshB (g := gb190) (o := .cells #[.int .i64 0, .slice none 0 0] 40 (0, 0)) (bkx_ BK190.out) k_ hk⟩))
               (case aO => exact (by (with_reducible repeat (first | apply Kd.N_alloc | apply Kd.N_drewN | apply Kd.N_drew)); exact HO206.out))
               (case aS => exact (below_size bb_))
               (case aL => have := LMc38.out; omega)
               intro v213 w47 ho hb hg hat
               rw [← Ny212.out] at ho
               have HO214 := Aside0.mk (ho)
               replace HO_190001 := Aside0.mk (Kd.V_afterv (ok := (fun k_ => (P0_1_ k_ ∨ w.heap.size ≤ k_) ∧ k_ ≠ gb189 ∧ k_ ≠ gb190)) (by (with_reducible repeat (first | apply Kd.V_alloc | apply Kd.V_drewN | apply Kd.V_drew)); exact HO_190001.out) hg hat)
               replace BK189 := Aside0.mk (blk_grown (g := gb189) (o := .cells #[.int .i64 a0_0, .slice (some ad195) l0_1.length c0_1] 40 (0, 0)) (bkx_ BK189.out) hg (Kd.N_ne HO206.out BK189.out (by decide)))
               replace BK190 := Aside0.mk (blk_grown (g := gb190) (o := .cells #[.int .i64 0, .slice none 0 0] 40 (0, 0)) (bkx_ BK190.out) hg (Kd.N_ne HO206.out BK190.out (by decide)))
               replace HL195_0 := Aside0.mk (Kd.V_afterv (ok := (fun k_ => (P0_1_ k_ ∨ w.heap.size ≤ k_) ∧ k_ ≠ gb189 ∧ k_ ≠ gb190)) (by (with_reducible repeat (first | apply Kd.V_alloc | apply Kd.V_drewN | apply Kd.V_drew)); exact HL195_0.out) hg hat)
               replace HO203 := Aside0.mk (Kd.V_afterv (ok := (fun k_ => (P0_1_ k_ ∨ w.heap.size ≤ k_) ∧ k_ ≠ gb189 ∧ k_ ≠ gb190)) (by (with_reducible repeat (first | apply Kd.V_alloc | apply Kd.V_drewN | apply Kd.V_drew)); exact HO203.out) hg hat)
               replace HO211 := Aside0.mk (Kd.V_afterv (ok := (fun k_ => (P0_1_ k_ ∨ w.heap.size ≤ k_) ∧ k_ ≠ gb189 ∧ k_ ≠ gb190)) (by (with_reducible repeat (first | apply Kd.V_alloc | apply Kd.V_drewN | apply Kd.V_drew)); exact HO211.out) hg hat)
               replace HB := Aside0.mk (hb)
               clear HO206
               clear ho hb hg hat
               obtain ⟨Ao48, co48, eo48⟩ := Kd.N_slice HO214.out
               (first | subst eo48 | (injection eo48 with f1_ f2_ f3_; have f4_ := f1_.symm; have f5_ := f3_.symm; clear f1_ f2_ f3_; subst f4_; subst f5_))
               refine hK.out _ _ ⟨bc_ BK189 0, bc_ BK189 1⟩ (fun hHeld => ?_)
               clear hK K
               refine nm_ ?_
               refine plx_ 12 (tf 13 1) ?_
               refine last_ (i := 13) (N := none) (tf 14 0) rfl rfl (one_of HT_.out (by kernel_rfl)) (by decide) (fun K hK => ?_)
               have hs49 : w47.cell? ⟨gb189, 1, none⟩ = some (.slice (some ad195) l0_1.length c0_1) := bc_ BK189 1
               have hfs49 := blk_frozen BK189.out 1
               have hns49_1 := NB190_189.out
               have hms49_1 := NB189_190.out
               refine skip_ (w1 := ?_) (by rfl) rfl ?_ ?_
               rotate_left
               ·go_simp
                rfl
               refine hK.out _ _ ?_
               clear hK K
               refine done_ (done_of HT_.out (by kernel_rfl)) ?_
               obtain ⟨hcz50_0, hcz50_1, hfz50_0, hfz50_1⟩ := b2_ BK189
               obtain ⟨hcz51_0, hcz51_1, hfz51_0, hfz51_1⟩ := b2_ BK190
               try go_wp2
               refine bodyPost_ret (results_cell_row rfl _ _ gb190 40 #[.int .i64 a0_0, .slice Ao48 y212.length co48] (0, 0) _ rfl (by (with_reducible repeat (first | refine blk_drewN ?_ _ | refine blk_drew ?_ | refine blk_alloc ?_ _)); refine blk_put (cs := #[.int .i64 a0_0, .slice none 0 0]) ?_ 1 _ rfl; (with_reducible repeat (first | refine blk_drewN ?_ _ | refine blk_drew ?_ | refine blk_alloc ?_ _)); refine blk_put (cs := #[.int .i64 0, .slice none 0 0]) ?_ 0 _ rfl; (with_reducible repeat (first | refine blk_drewN ?_ _ | refine blk_drew ?_ | refine blk_alloc ?_ _)); refine blk_far ?_ NB190_189.out _; (with_reducible repeat (first | refine blk_drewN ?_ _ | refine blk_drew ?_ | refine blk_alloc ?_ _)); exact BK190.out) Try.underlying40 rfl (by kernel_rfl)) rfl ?_
               exact ⟨_, by first | rfl | (simp [errW_none, errW_some] <;> rfl) | (simp only [← hji35]; first | rfl | (simp [errW_none, errW_some] <;> rfl)) | (simp [*, errW_none, errW_some] <;> rfl), Kd.N_lower (by (with_reducible repeat (first | apply Kd.N_alloc | apply Kd.N_drewN | apply Kd.N_drew)); exact Kd.N_mono (Kd.N_far (p := ⟨gb190, 1, none⟩) (Kd.N_far (p := ⟨gb190, 0, none⟩) (Kd.N_far (p := ⟨gb189, 1, none⟩) (Kd.N_mono (Kd.N_mono HO214.out (fun k_ hk => (⟨hk, hk.2.1⟩ : _ ∧ k_ ≠ gb189))) (fun k_ hk => (⟨hk, hk.1.2.2⟩ : _ ∧ k_ ≠ gb190))) (fun _ hk => hk.1.2) (.slice Ao48 y212.length co48)) (fun _ hk => hk.2) (.int .i64 a0_0)) (fun _ hk => hk.2) (.slice Ao48 y212.length co48)) (fun _ hk => hk.1.1.1)) hb_, grown_of_below (by repeat (first | (with_reducible first | exact HB.out | apply below_alloc | apply pw_below_drewN | apply below_drew1 | refine below_set ?_ GE189.out | refine below_set ?_ GE190.out) | exact HB.out)) _, .inr (Kd.N_base HO214.out)⟩
              ·rw [if_neg c38] at H
               exact absurd H (by simp)
             ·rw [if_neg c37] at H
              exact absurd H (by simp)
            ·rw [if_neg c36] at H
             exact absurd H (by simp)
           ·rw [if_neg c34] at H
            exact absurd H (by simp)
          ·rw [if_neg c33] at H
           exact absurd H (by simp)
         ·rw [if_neg c31] at H
          have c31b0 : ((wrap64 (a2 + ((rd_T74 l0_1 x7_1).f1))) == 0) = false := beq_eq_false_iff_ne.mpr c31
          have c31b1 : ((wrap64 (a2 + ((rd_T74 l0_1 x7_1).f1))) != 0) = true := bne_iff_ne.mpr c31
          simp only [Option.some.injEq, Prod.mk.injEq] at H
          obtain ⟨rfl, rfl⟩ := H
          have hnb52 := NB189_190.out
          have hnc52 := NB190_189.out
          obtain ⟨hcz53_0, hcz53_1, hfz53_0, hfz53_1⟩ := b2_ BK189
          have p195 : 0 ≤ (x7_1 : Int) := od_
          have q195 : x7_1 < (l0_1.length : Int) := od_
          obtain ⟨ad195, A195_0, c195_0, e195, hx195_0, hx195_1, hl195_0, hi195_0⟩ := at_T74 (Kd.V_reads' HO_190001.out).2.2 x7_1 p195 q195
          cases e195
          obtain ⟨ce195, hce195, hMe195, hcc195⟩ := Kd.V_get HO_190001.out z74 x7_1 p195 (by first | exact q195 | exact od_ | (have e_ := (Kd.V_reads' HO_190001.out).1; omega))
          obtain ⟨ua195_0, uc195_0, rfl, ul195_0, ge195_0⟩ := k74_openF hMe195
          have hv195_0 := hcc195 0 _ rfl
          rw [Nat.add_zero] at hv195_0
          replace hv195_0 := Option.some.inj (hv195_0.symm.trans hx195_0)
          injection hv195_0 with hva_ hvn_ hvc_
          rw [hva_] at ge195_0
          rw [hvc_] at ul195_0
          have HL195_0 := Aside0.mk (show Kd.V k25 25 _ w.heap.size _ _ ((rd_T74 l0_1 x7_1).f0) from Kd.V_mk ul195_0 ge195_0)
          clear hva_ hvn_ hvc_ ge195_0 ul195_0
          clear hcc195 hce195
          have HR195_0 := Aside0.mk hi195_0
          have HC195_0 := Aside0.mk hl195_0
          clear hi195_0 hl195_0
          replace p195 := eq_true p195
          replace q195 := eq_true q195
          have p215 : 0 ≤ (x7_1 : Int) := od_
          have q215 : x7_1 < (l0_1.length : Int) := od_
          obtain ⟨ad215, A215_0, c215_0, e215, hx215_0, hx215_1, hl215_0, hi215_0⟩ := at_T74 (Kd.V_reads' HO_190001.out).2.2 x7_1 p215 q215
          obtain rfl : ad195 = ad215 := (by injection e215)
          obtain ⟨ce215, hce215, hMe215, hcc215⟩ := Kd.V_get HO_190001.out z74 x7_1 p215 (by first | exact q215 | exact od_ | (have e_ := (Kd.V_reads' HO_190001.out).1; omega))
          obtain ⟨ua215_0, uc215_0, rfl, ul215_0, ge215_0⟩ := k74_openF hMe215
          have hv215_0 := hcc215 0 _ rfl
          rw [Nat.add_zero] at hv215_0
          replace hv215_0 := Option.some.inj (hv215_0.symm.trans hx215_0)
          injection hv215_0 with hva_ hvn_ hvc_
          rw [hva_] at ge215_0
          rw [hvc_] at ul215_0
          have HL215_0 := Aside0.mk (show Kd.V k25 25 _ w.heap.size _ _ ((rd_T74 l0_1 x7_1).f0) from Kd.V_mk ul215_0 ge215_0)
          clear hva_ hvn_ hvc_ ge215_0 ul215_0
          clear hcc215 hce215
          have HR215_0 := Aside0.mk hi215_0
          have HC215_0 := Aside0.mk hl215_0
          clear hi215_0 hl215_0
          replace p215 := eq_true p215
          replace q215 := eq_true q215
          have ea_ := Option.some.inj (hx195_0.symm.trans hx215_0)
          injection ea_ with ea_ en_ ec_
          subst ea_
          subst ec_
          clear en_
          obtain ⟨hcz54_0, hcz54_1, hfz54_0, hfz54_1⟩ := b2_ BK190
          have p_ : 0 ≤ (x7_1 : Int) := of_eq_true p195
          have q_ : (x7_1 : Int) < (l0_1.length : Int) := of_eq_true q195
          have HNc := Kd.N_below HN_.out HB.out
          obtain ⟨go_, co_, eo_, gb_, gl_, cl_, HG_⟩ := Kd.N_form HNc (by omega)
          clear hx195_0 hx195_1 hx215_0 hx215_1 e215
          cases eo_
          obtain ⟨ce_, hcl_, hF_, hcc_, hfr_⟩ := Kd.N_elem HNc z74 (x7_1 : Int) p_ q_
          obtain ⟨ua_, uc_, rfl, ul_, ge_⟩ := k74_openF hF_
          have hx_0 : wc.cell? ⟨go_, (x7_1 : Int).toNat * 2, none⟩ = some (.slice ua_ (rd_T74 l0_1 x7_1).f0.length uc_) := hcc_ 0 _ rfl
          have hx_1 : wc.cell? ⟨go_, (x7_1 : Int).toNat * 2 + 1, none⟩ = some (.int .i64 (rd_T74 l0_1 x7_1).f1) := hcc_ 1 _ rfl
          have hf_0 : wc.frozen? ⟨go_, (x7_1 : Int).toNat * 2, none⟩ = false := hfr_ 0
          have hf_1 : wc.frozen? ⟨go_, (x7_1 : Int).toNat * 2 + 1, none⟩ = false := hfr_ 1
          have HP := Kd.N_seg HNc (x7_1 : Int) p_ q_ (seg := [.int .i64 (wrap64 (a2 + (rd_T74 l0_1 x7_1).f1))]) (j := 1) hcl_ hcc_ (show 1 + 1 ≤ 2 from by decide) (x' := (⟨(rd_T74 l0_1 x7_1).f0, (wrap64 (a2 + (rd_T74 l0_1 x7_1).f1))⟩ : S74)) (k74_mkF _ _ (⟨(rd_T74 l0_1 x7_1).f0, (wrap64 (a2 + (rd_T74 l0_1 x7_1).f1))⟩ : S74) ul_ ge_) (fun _ hk => hk)
          have HNE := Aside0.mk HNc
          clear hcl_ hF_ hcc_ hfr_ HG_ HNc
          have hGa := Aside0.mk (Kd.N_ne HNE.out BK189.out (by decide))
          have hGb := Aside0.mk (Kd.N_ne HNE.out BK190.out (by decide))
          go_wp2_with (first | ((with_reducible refine gate_store (t := 3) (p := 63) rfl ?_); refine store_event (t := 3) (p := 63) (v := ?vo_) (w1 := (wc.setCell ⟨go_, (x7_1 : Int).toNat * 2 + 1, none⟩ (.int .i64 (wrap64 (a2 + (rd_T74 l0_1 x7_1).f1))))) ?hg ?ho ?hn ?hr ?_; (case ho => rfl); (case hg => rfl); (case hn => rfl); (case hr => first | (go_simp; done) | (go_simp; rfl)); intro w11 hw; have hg : wc.grownBy w11 (some go_) := (by rw [hw]; exact HP.2); have n0_ := Aside0.mk (show Kd.N k74 74 w11 b_ (fun k_ => P0_1_ k_ ∧ k_ < w.heap.size) (.slice (some ⟨go_, 0, none⟩) l0_1.length c0_1) (l0_1.set (x7_1 : Int).toNat (⟨(rd_T74 l0_1 x7_1).f0, wrap64 (a2 + (rd_T74 l0_1 x7_1).f1)⟩ : S74)) from by rw [hw]; exact HP.1); have n1_ := Aside0.mk (blk_grown (g := gb189) (bkx_ BK189.out) hg hGa.out); have n2_ := Aside0.mk (blk_grown (g := gb190) (bkx_ BK190.out) hg hGb.out); have n3_ := Aside0.mk (grown_then HB.out hg); clear HP BK189 BK190 HB hg hw hx_0 hx_1 hf_0 hf_1 hcz53_0 hcz53_1 hfz53_0 hfz53_1 hcz54_0 hcz54_1 hfz54_0 hfz54_1; have HN2 := n0_; have BK189 := n1_; have BK190 := n2_; have HG2 := n3_; clear n0_ n1_ n2_ n3_; obtain ⟨hcy_0, hcy_1, hfy_0, hfy_1⟩ := b2_ BK189; obtain ⟨hcyy_0, hcyy_1, hfyy_0, hfyy_1⟩ := b2_ BK190))
          refine bodyPost_ret (results_cell_row rfl _ _ gb190 40 #[.int .i64 a0_0, .slice (some ⟨go_, 0, none⟩) l0_1.length c0_1] (0, 0) _ rfl (bp2_ (bkx_ BK190.out)) Try.underlying40 rfl (by kernel_rfl)) rfl ?_
          exact ⟨_, by first | rfl | (simp [errW_none, errW_some] <;> rfl), Kd.N_mono (Kd.N_far (p := ⟨gb190, 1, none⟩) (Kd.N_far (p := ⟨gb190, 0, none⟩) HN2.out (fun k_ hk => Nat.ne_of_lt (Nat.lt_of_lt_of_le hk.2 GE190.out)) _) (fun k_ hk => Nat.ne_of_lt (Nat.lt_of_lt_of_le hk.2 GE190.out)) _) (fun _ hk => .inl hk.1), by repeat (first | (with_reducible first | exact HG2.out | apply grown_drewN | refine grown_set ?_ GE190.out) | exact HG2.out), .inl rfl⟩
        ·rw [if_neg c30] at H
         exact absurd H (by simp)
       ·rw [if_neg c29] at H
        exact absurd H (by simp)
      ·replace c28 := Bool.eq_false_iff.mpr c28
       subst c28
       have H1 : (if a2 = 0 then (some (a0_0, l0_1)) else ((some (([] : List (S74)) : List (S74))).bind fun y216 => (if 0 ≤ x7_1 then (if x7_1 ≤ (l0_1.length : Int) then ((some (l0_1.take (x7_1 : Int).toNat : List (S74))).bind fun y219 => (if y216.length + y219.length < 4398046511104 then ((some (y216 ++ y219 : List (S74))).bind fun y224 => ((spec_l02CopyRow.f l1).bind fun t227 => (if y224.length < 4398046511104 then ((some (y224 ++ [(⟨t227, a2⟩ : S74)] : List (S74))).bind fun y230 => ((some (l0_1.drop (x7_1 : Int).toNat : List (S74))).bind fun y233 => (if y230.length + y233.length < 4398046511104 then (some (a0_0, (y230 ++ y233))) else (none)))) else (none)))) else (none))) else (none)) else (none)))) = some (r1, r2) := by rw [if_neg (show ¬ (false = true) by decide)] at H; exact H
       clear H
       have H := H1
       clear H1
       by_cases c55 : a2 = 0
       ·rw [if_pos c55] at H
        have c55b0 : (a2 == 0) = true := beq_iff_eq.mpr c55
        have c55b1 : (a2 != 0) = false := bne_eq_false_iff_eq.mpr c55
        clear c55
        simp only [Option.some.injEq, Prod.mk.injEq] at H
        obtain ⟨rfl, rfl⟩ := H
        have hnb56 := NB189_190.out
        have hnc56 := NB190_189.out
        obtain ⟨hcz57_0, hcz57_1, hfz57_0, hfz57_1⟩ := b2_ BK189
        obtain ⟨hcz58_0, hcz58_1, hfz58_0, hfz58_1⟩ := b2_ BK190
        go_wp2
        refine bodyPost_ret (results_cell_row rfl _ _ gb190 40 #[.int .i64 a0_0, .slice A0_1 l0_1.length c0_1] (0, 0) _ rfl (bp2_ (bkx_ BK190.out)) Try.underlying40 rfl (by kernel_rfl)) rfl ?_
        exact ⟨_, by first | rfl | (simp [errW_none, errW_some] <;> rfl) | (simp [*, errW_none, errW_some] <;> rfl), Kd.N_mono (Kd.N_below HN_.out (by repeat (first | (with_reducible first | exact HB.out | apply below_alloc | apply pw_below_drewN | apply below_drew1 | refine below_set ?_ GE189.out | refine below_set ?_ GE190.out) | exact HB.out))) (fun _ hk => .inl hk.1), grown_of_below (by repeat (first | (with_reducible first | exact HB.out | apply below_alloc | apply pw_below_drewN | apply below_drew1 | refine below_set ?_ GE189.out | refine below_set ?_ GE190.out) | exact HB.out)) _, .inl rfl⟩
       ·rw [if_neg c55] at H
        have c55b0 : (a2 == 0) = false := beq_eq_false_iff_ne.mpr c55
        have c55b1 : (a2 != 0) = true := bne_iff_ne.mpr c55
        obtain ⟨y216, hy216⟩ : ∃ y_ : List (S74), y_ = (([] : List (S74))) := ⟨_, rfl⟩
        replace H : (if 0 ≤ x7_1 then (if x7_1 ≤ (l0_1.length : Int) then ((some (l0_1.take (x7_1 : Int).toNat : List (S74))).bind fun y219 => (if y216.length + y219.length < 4398046511104 then ((some (y216 ++ y219 : List (S74))).bind fun y224 => ((spec_l02CopyRow.f l1).bind fun t227 => (if y224.length < 4398046511104 then ((some (y224 ++ [(⟨t227, a2⟩ : S74)] : List (S74))).bind fun y230 => ((some (l0_1.drop (x7_1 : Int).toNat : List (S74))).bind fun y233 => (if y230.length + y233.length < 4398046511104 then (some (a0_0, (y230 ++ y233))) else (none)))) else (none)))) else (none))) else (none)) else (none)) = some (r1, r2) := by first | (rw [hy216]; with_reducible exact H) | (have H2_ := (Option.bind_some _ _).symm.trans H; rw [hy216]; with_reducible exact H2_) | (have H2_ := (Option.bind_some _ _).symm.trans H; with_reducible exact H2_) | with_reducible exact H | (rw [hy216]; exact H) | exact H
        have Ny216 := Aside0.mk hy216
        clear hy216
        by_cases c59 : 0 ≤ x7_1
        ·rw [if_pos c59] at H
         have c59b0 := eq_true c59
         have c59b1 : decide (0 ≤ x7_1) = true := decide_eq_true c59
         clear c59
         by_cases c60 : x7_1 ≤ (l0_1.length : Int)
         ·rw [if_pos c60] at H
          have c60b0 := eq_true c60
          have c60b1 : decide (x7_1 ≤ (l0_1.length : Int)) = true := decide_eq_true c60
          clear c60
          obtain ⟨y219, hy219⟩ : ∃ y_ : List (S74), y_ = (l0_1.take (x7_1 : Int).toNat) := ⟨_, rfl⟩
          replace H : (if y216.length + y219.length < 4398046511104 then ((some (y216 ++ y219 : List (S74))).bind fun y224 => ((spec_l02CopyRow.f l1).bind fun t227 => (if y224.length < 4398046511104 then ((some (y224 ++ [(⟨t227, a2⟩ : S74)] : List (S74))).bind fun y230 => ((some (l0_1.drop (x7_1 : Int).toNat : List (S74))).bind fun y233 => (if y230.length + y233.length < 4398046511104 then (some (a0_0, (y230 ++ y233))) else (none)))) else (none)))) else (none)) = some (r1, r2) := by first | (rw [hy219]; with_reducible exact H) | (have H2_ := (Option.bind_some _ _).symm.trans H; rw [hy219]; with_reducible exact H2_) | (have H2_ := (Option.bind_some _ _).symm.trans H; with_reducible exact H2_) | with_reducible exact H | (rw [hy219]; exact H) | exact H
          have Ny219 := Aside0.mk hy219
          clear hy219
          by_cases c61 : y216.length + y219.length < 4398046511104
          ·rw [if_pos c61] at H
           have LMc61 := Aside0.mk c61
           clear c61
           obtain ⟨y224, hy224⟩ : ∃ y_ : List (S74), y_ = (y216 ++ y219) := ⟨_, rfl⟩
           replace H : ((spec_l02CopyRow.f l1).bind fun t227 => (if y224.length < 4398046511104 then ((some (y224 ++ [(⟨t227, a2⟩ : S74)] : List (S74))).bind fun y230 => ((some (l0_1.drop (x7_1 : Int).toNat : List (S74))).bind fun y233 => (if y230.length + y233.length < 4398046511104 then (some (a0_0, (y230 ++ y233))) else (none)))) else (none))) = some (r1, r2) := by first | (rw [hy224]; with_reducible exact H) | (have H2_ := (Option.bind_some _ _).symm.trans H; rw [hy224]; with_reducible exact H2_) | (have H2_ := (Option.bind_some _ _).symm.trans H; with_reducible exact H2_) | with_reducible exact H | (rw [hy224]; exact H) | exact H
           have Ny224 := Aside0.mk hy224
           clear hy224
           replace H := Option.bind_eq_some_iff.mp H
           obtain ⟨t227, A620, H⟩ := H
           replace H : (if y224.length < 4398046511104 then ((some (y224 ++ [(⟨t227, a2⟩ : S74)] : List (S74))).bind fun y230 => ((some (l0_1.drop (x7_1 : Int).toNat : List (S74))).bind fun y233 => (if y230.length + y233.length < 4398046511104 then (some (a0_0, (y230 ++ y233))) else (none)))) else (none)) = some (r1, r2) := H
           have A62 := Aside0.mk A620
           clear A620
           by_cases c63 : y224.length < 4398046511104
           ·rw [if_pos c63] at H
            have LMc63 := Aside0.mk c63
            clear c63
            obtain ⟨y230, hy230⟩ : ∃ y_ : List (S74), y_ = (y224 ++ [(⟨t227, a2⟩ : S74)]) := ⟨_, rfl⟩
            replace H : ((some (l0_1.drop (x7_1 : Int).toNat : List (S74))).bind fun y233 => (if y230.length + y233.length < 4398046511104 then (some (a0_0, (y230 ++ y233))) else (none))) = some (r1, r2) := by first | (rw [hy230]; with_reducible exact H) | (have H2_ := (Option.bind_some _ _).symm.trans H; rw [hy230]; with_reducible exact H2_) | (have H2_ := (Option.bind_some _ _).symm.trans H; with_reducible exact H2_) | with_reducible exact H | (rw [hy230]; exact H) | exact H
            have Ny230 := Aside0.mk hy230
            clear hy230
            have c64b0 := eq_true (od_ : 0 ≤ x7_1)
            have c65b0 := eq_true (od_ : x7_1 ≤ (l0_1.length : Int))
            obtain ⟨y233, hy233⟩ : ∃ y_ : List (S74), y_ = (l0_1.drop (x7_1 : Int).toNat) := ⟨_, rfl⟩
            replace H : (if y230.length + y233.length < 4398046511104 then (some (a0_0, (y230 ++ y233))) else (none)) = some (r1, r2) := by first | (rw [hy233]; with_reducible exact H) | (have H2_ := (Option.bind_some _ _).symm.trans H; rw [hy233]; with_reducible exact H2_) | (have H2_ := (Option.bind_some _ _).symm.trans H; with_reducible exact H2_) | with_reducible exact H | (rw [hy233]; exact H) | exact H
            have Ny233 := Aside0.mk hy233
            clear hy233
            by_cases c66 : y230.length + y233.length < 4398046511104
            ·rw [if_pos c66] at H
             have LMc66 := Aside0.mk c66
             clear c66
             obtain ⟨y238, hy238⟩ : ∃ y_ : List (S74), y_ = (y230 ++ y233) := ⟨_, rfl⟩
             replace H : (some (a0_0, y238)) = some (r1, r2) := by first | (rw [hy238]; with_reducible exact H) | (have H2_ := (Option.bind_some _ _).symm.trans H; rw [hy238]; with_reducible exact H2_) | (have H2_ := (Option.bind_some _ _).symm.trans H; with_reducible exact H2_) | with_reducible exact H | (rw [hy238]; exact H) | exact H
             have Ny238 := Aside0.mk hy238
             clear hy238
             simp only [Option.some.injEq, Prod.mk.injEq] at H
             obtain ⟨rfl, rfl⟩ := H
             try go_wp2
             replace HO_190001 := Aside0.mk (Kd.V_drew HO_190001.out)
             replace BK189 := Aside0.mk (blk_drew BK189.out)
             replace BK190 := Aside0.mk (blk_drew BK190.out)
             replace HB := Aside0.mk (below_drew1 HB.out)
             have q68 : (x7_1 : Int) ≤ ((l0_1.length : Int) : Int) := od_
             obtain ⟨i068, hi068, _, hsz68, _⟩ := info_parts info74
             have hroom68 : l0_1.length ≤ c0_1 := (Kd.V_reads' HO_190001.out).2.1
             have hC68 : Kd.F k74 _ _ A0_1 l0_1.length l0_1 := (Kd.V_at (base := w.heap.size) HO_190001.out).2.2
             have hcut68 := cut_to (P := Try.prog) 38 74 .i64 Try.underlying38 hi068 A0_1 l0_1.length c0_1 x7_1 od_ q68 hroom68
             have hr68 := Kd.F_take (m := (x7_1 : Int).toNat) hC68 (by omega)
             have hy68 : y219.length = (x7_1 : Int).toNat := (by rw [Ny219.out, List.length_take]; omega)
             rw [← Ny219.out] at hr68
             rw [← hy68] at hcut68
             have HO223 := Aside0.mk (show Kd.V k74 74 _ w.heap.size _ (.slice A0_1 y219.length c0_1) y219 from Kd.V_mk (by omega) hr68)
             have HC223 := Aside0.mk (show y219.length ≤ c0_1 from by omega)
             clear hr68 hC68 hroom68 hi068 hsz68
             have KY68 := Aside0.mk hy68
             clear hy68
             replace q68 := eq_true q68
             have q69 : (x7_1 : Int) ≤ ((l0_1.length : Int) : Int) := od_
             obtain ⟨i069, hi069, _, hsz25, _⟩ := info_parts info74
             have hroom69 : l0_1.length ≤ c0_1 := (Kd.V_reads' HO_190001.out).2.1
             have hC69 : Kd.F k74 _ _ A0_1 l0_1.length l0_1 := (Kd.V_at (base := w.heap.size) HO_190001.out).2.2
             have q069 : (0 : Int) ≤ (x7_1 : Int) := od_
             have hcut69 := cut_from (P := Try.prog) 38 74 .i64 Try.underlying38 hi069 2 hsz25 A0_1 l0_1.length c0_1 x7_1 q069 q69
             have hr69 := Kd.F_cut (m := (x7_1 : Int).toNat) (c := c0_1) hC69 (by omega) hroom69
             obtain ⟨A69, hA69⟩ : ∃ A1, A1 = (if c0_1 = (x7_1 : Int).toNat then A0_1 else (A0_1 : Option Addr).map (·.add ((x7_1 : Int).toNat * 2))) := ⟨_, rfl⟩
             obtain ⟨c69, hc69⟩ : ∃ c1, c1 = c0_1 - (x7_1 : Int).toNat := ⟨_, rfl⟩
             have hy69 : y233.length = l0_1.length - (x7_1 : Int).toNat := (by rw [Ny233.out, List.length_drop] <;> omega)
             rw [show (l0_1).drop (x7_1 : Int).toNat = y233 from Ny233.out.symm] at hr69
             replace hr69 : Kd.F k74 _ _ A69 y233.length y233 := (by rw [hA69]; exact hr69)
             rw [← hy69, ← hA69, ← hc69] at hcut69
             have HO237 := Aside0.mk (show Kd.V k74 74 _ w.heap.size _ (.slice A69 y233.length c69) y233 from Kd.V_mk (by rw [hy69, hc69]; exact Nat.sub_le_sub_right hroom69 _) hr69)
             have HC237 := Aside0.mk (show y233.length ≤ c69 from by rw [hy69, hc69]; exact Nat.sub_le_sub_right hroom69 _)
             clear hr69 hC69 hroom69 hi069 hsz25 hc69
             have KY69 := Aside0.mk hy69
             have KA69 := Aside0.mk hA69
             clear hy69 hA69
             replace q69 := eq_true q69
             refine start_ (n := 19) (S := fun w' => w'.cell? ⟨gb189, 0, none⟩ = some (.int .i64 a0_0) ∧ w'.cell? ⟨gb189, 1, none⟩ = some (.slice A0_1 l0_1.length c0_1)) (ds := [18]) (tf 0 19) (by kernel_rfl) rfl rfl ⟨bc_ BK189 0, bc_ BK189 1⟩ (fun hHeld => ?_); refine with_tabW spec_l02Put.tab15 spec_l02Put.bits15 (fun HT_ HW_ => ?_)
             generalize wc.drew = w67 at HO_190001 BK189 BK190 HB HO223 HO237 hHeld ⊢
             refine plx_ 1 #[false, true, false, false, false, false, false, false, false, false, false, false, false, false, false, false, false, false, false] ?_
             refine plx_ 3 #[false, true, false, true, false, false, false, false, false, false, false, false, false, false, false, false, false, false, false] ?_
             refine plx_ 6 #[false, true, false, true, false, false, true, false, false, false, false, false, false, false, false, false, false, false, false] ?_
             refine plx_ 8 #[false, true, false, true, false, false, true, false, true, false, false, false, false, false, false, false, false, false, false] ?_
             refine plx_ 12 #[false, true, false, true, false, false, true, false, true, false, false, false, true, false, false, false, false, false, false] ?_
             refine plx_ 14 #[false, true, false, true, false, false, true, false, true, false, false, false, true, false, true, false, false, false, false] ?_
             refine tlx_ 2 #[false, true, true, true, false, false, true, false, true, false, false, false, true, false, true, false, false, false, false] ?_
             refine plx_ 4 #[false, true, true, true, true, false, true, false, true, false, false, false, true, false, true, false, false, false, false] ?_
             refine tlx_ 13 #[false, true, true, true, true, false, true, false, true, false, false, false, true, true, true, false, false, false, false] ?_
             refine plx_ 15 #[false, true, true, true, true, false, true, false, true, false, false, false, true, true, true, true, false, false, false] ?_
             refine one_ (i := 0) (N := some 81) #[true, true, true, true, true, false, true, false, true, false, false, false, true, true, true, true, false, false, false] rfl rfl (one_of HT_.out (by kernel_rfl)) (by decide) (fun K hK => ?_)
             refine Kd.N_lit_step k74 _ 74 ?hg (N' := 81) ?hd (xs := ([] : List (S74))) (inner := []) (ok := (fun k_ => (P0_1_ k_ ∨ w.heap.size ≤ k_) ∧ k_ ≠ gb189 ∧ k_ ≠ gb190)) (okp := (fun k_ => (P0_1_ k_ ∨ w.heap.size ≤ k_) ∧ k_ ≠ gb189 ∧ k_ ≠ gb190)) ?hr ?hp (fun _ hk => hk) ((show ∀ k_, w67.heap.size ≤ k_ → (fun k_ => (P0_1_ k_ ∨ w.heap.size ≤ k_) ∧ k_ ≠ gb189 ∧ k_ ≠ gb190) k_ from fun k_ hk => ⟨(.inr (Nat.le_trans (below_size bb_) hk)), Kd.freshB (g := gb189) (o := .cells #[.int .i64 a0_0, .slice A0_1 l0_1.length c0_1] 40 (0, 0)) (bkx_ BK189.out) k_ hk, Kd.freshB (g := gb190) (o := .cells #[.int .i64 0, .slice none 0 0] 40 (0, 0)) (bkx_ BK190.out) k_ hk⟩) _ (Nat.le_refl _)) (Below.refl _ _) (Nat.le_refl _) (by simp) ?_; (case hd => rfl); (case hg => rfl); (case hr => first | (go_simp; done) | (go_simp; rfl)); (case hp => exact (Reps.none _ _))
             intro v217 w70 ho71 hb hg_ hnew_
             clear hg_ hnew_
             (first | rw [← Ny216.out] at ho71 | (simp only [Int.reduceToNat] at ho71; rw [← Ny216.out] at ho71))
             have HO218 := Aside0.mk (Kd.N_lower ho71 (below_size bb_))
             replace HO_190001 := Aside0.mk (Kd.V_elder' (by (with_reducible repeat (first | apply Kd.V_alloc | apply Kd.V_drewN | apply Kd.V_drew)); exact HO_190001.out) (Kd.N_base ho71) hb)
             replace HO223 := Aside0.mk (Kd.V_elder' (by (with_reducible repeat (first | apply Kd.V_alloc | apply Kd.V_drewN | apply Kd.V_drew)); exact HO223.out) (Kd.N_base ho71) hb)
             replace HO237 := Aside0.mk (Kd.V_elder' (by (with_reducible repeat (first | apply Kd.V_alloc | apply Kd.V_drewN | apply Kd.V_drew)); exact HO237.out) (Kd.N_base ho71) hb)
             replace BK189 := bkb_ BK189 hb
             replace BK190 := bkb_ BK190 hb
             replace HB := bs_ hb
             clear hb ho71
             refine hK.out _ _ ⟨bc_ BK189 0, bc_ BK189 1⟩ (fun hHeld => ?_)
             clear hK K
             refine nm_ ?_
             refine one_ (i := 5) (N := some 86) #[true, true, true, true, true, true, true, false, true, false, false, false, true, true, true, true, false, false, false] rfl rfl (one_of HT_.out (by kernel_rfl)) (by decide) (fun K hK => ?_)
             refine Kd.N_append_rows_step k74 (w0 := w) w.heap.size (by rfl) (.tmp 81) (.tmp 85) 38 74 (.agg #[(.slice none 0 0), (.int .i64 0)]) 32 rfl Try.underlying38 info74 rfl (by decide) (by omega) v217 y216 y219 _ _ _ (fun k_ => (P0_1_ k_ ∨ w.heap.size ≤ k_) ∧ k_ ≠ gb189 ∧ k_ ≠ gb190) (fun k_ => ((fun k_ => (P0_1_ k_ ∨ w.heap.size ≤ k_) ∧ k_ ≠ gb189 ∧ k_ ≠ gb190)) k_ ∧ some k_ ≠ (v217 : Value).ownBlock) rfl rfl ?aO ?aR (fun _ hk => hk) ?aF ?aB ?aS ?aL ?_
             (case aR => exact (by skip; exact Kd.V_F (Kd.V_mono (ok' := (fun k_ => ((fun k_ => (P0_1_ k_ ∨ w.heap.size ≤ k_) ∧ k_ ≠ gb189 ∧ k_ ≠ gb190)) k_ ∧ some k_ ≠ (v217 : Value).ownBlock)) (HO223.out) (fun k_ hk => ⟨⟨hk.1.1, ⟨hk.1.2.1, hk.1.2.2⟩⟩, hk.2⟩))))
             (case aB => exact bb_)
             (case aF => exact (fun k_ hk => ⟨(.inr (Nat.le_trans (below_size bb_) hk)), Kd.freshB (g := gb189) (o := .cells #[.int .i64 a0_0, .slice A0_1 l0_1.length c0_1] 40 (0, 0)) (bkx_ BK189.out) k_ hk, Kd.freshB (g := gb190) (o := .cells #[.int .i64 0, .slice none 0 0] 40 (0, 0)) (bkx_ BK190.out) k_ hk⟩))
             (case aO => exact (by (with_reducible repeat (first | apply Kd.N_alloc | apply Kd.N_drewN | apply Kd.N_drew)); exact HO218.out))
             (case aS => exact (below_size bb_))
             (case aL => have := LMc61.out; omega)
             intro v225 w72 ho hb hg hat
             rw [← Ny224.out] at ho
             have HO226 := Aside0.mk (ho)
             replace HO_190001 := Aside0.mk (Kd.V_afterv (ok := (fun k_ => (P0_1_ k_ ∨ w.heap.size ≤ k_) ∧ k_ ≠ gb189 ∧ k_ ≠ gb190)) (by (with_reducible repeat (first | apply Kd.V_alloc | apply Kd.V_drewN | apply Kd.V_drew)); exact HO_190001.out) hg hat)
             replace BK189 := Aside0.mk (blk_grown (g := gb189) (o := .cells #[.int .i64 a0_0, .slice A0_1 l0_1.length c0_1] 40 (0, 0)) (bkx_ BK189.out) hg (Kd.N_ne HO218.out BK189.out (by decide)))
             replace BK190 := Aside0.mk (blk_grown (g := gb190) (o := .cells #[.int .i64 0, .slice none 0 0] 40 (0, 0)) (bkx_ BK190.out) hg (Kd.N_ne HO218.out BK190.out (by decide)))
             replace HO223 := Aside0.mk (Kd.V_afterv (ok := (fun k_ => (P0_1_ k_ ∨ w.heap.size ≤ k_) ∧ k_ ≠ gb189 ∧ k_ ≠ gb190)) (by (with_reducible repeat (first | apply Kd.V_alloc | apply Kd.V_drewN | apply Kd.V_drew)); exact HO223.out) hg hat)
             replace HO237 := Aside0.mk (Kd.V_afterv (ok := (fun k_ => (P0_1_ k_ ∨ w.heap.size ≤ k_) ∧ k_ ≠ gb189 ∧ k_ ≠ gb190)) (by (with_reducible repeat (first | apply Kd.V_alloc | apply Kd.V_drewN | apply Kd.V_drew)); exact HO237.out) hg hat)
             replace HB := Aside0.mk (hb)
             clear HO218
             clear ho hb hg hat
             refine hK.out _ _ ⟨bc_ BK189 0, bc_ BK189 1⟩ (fun hHeld => ?_)
             clear hK K
             refine nm_ ?_
             refine one_ (i := 7) (N := some 88) #[true, true, true, true, true, true, true, true, true, false, false, false, true, true, true, true, false, false, false] rfl rfl (one_of HT_.out (by kernel_rfl)) (by decide) (fun K hK => ?_)
             refine gs_ Try.func76 #[.slice A1 l1.length c1] ?_
             with_reducible refine (spec_l02CopyRow.calls _ _ l1 t227 _ ?side1 ?side2 A62.out).mono ?_
             (case side1 => exact ck_ (Kd.C_below HR1.out HB.out))
             (case side2 => exact HC1.out)
             rintro e w73 ⟨v228, rfl, ho0, hb⟩
             refine ⟨_, rfl, ?_⟩
             have HO229 := Aside0.mk (Kd.R_lower (Kd.R_newM (M := fun k_ => (w.heap.size ≤ k_)) ho0 (below_size bb_) (fun k_ h_ => h_)) (below_size bb_))
             replace HO_190001 := Aside0.mk (Kd.V_elder' (by (with_reducible repeat (first | apply Kd.V_alloc | apply Kd.V_drewN | apply Kd.V_drew)); exact HO_190001.out) (Kd.R_base ho0) hb)
             replace HO223 := Aside0.mk (Kd.V_elder' (by (with_reducible repeat (first | apply Kd.V_alloc | apply Kd.V_drewN | apply Kd.V_drew)); exact HO223.out) (Kd.R_base ho0) hb)
             replace HO237 := Aside0.mk (Kd.V_elder' (by (with_reducible repeat (first | apply Kd.V_alloc | apply Kd.V_drewN | apply Kd.V_drew)); exact HO237.out) (Kd.R_base ho0) hb)
             replace HO226 := Aside0.mk (Kd.N_elder' (by (with_reducible repeat (first | apply Kd.N_alloc | apply Kd.N_drewN | apply Kd.N_drew)); exact HO226.out) (Kd.R_base ho0) hb)
             replace BK189 := bkb_ BK189 hb
             replace BK190 := bkb_ BK190 hb
             replace HB := bs_ hb
             (try clear hb)
             (try clear hb2)
             (try clear hk)
             (try clear hi)
             (try clear ho0)
             obtain ⟨Ao74, co74, eo74⟩ := Kd.R_slice HO229.out
             (first | subst eo74 | (injection eo74 with f1_ f2_ f3_; have f4_ := f1_.symm; have f5_ := f3_.symm; clear f1_ f2_ f3_; subst f4_; subst f5_))
             refine hK.out _ _ ⟨bc_ BK189 0, bc_ BK189 1⟩ (fun hHeld => ?_)
             clear hK K
             refine nm_ ?_
             refine plx_ 9 #[true, true, true, true, true, true, true, true, true, true, false, false, true, true, true, true, false, false, false] ?_
             refine one_ (i := 10) (N := some 91) #[true, true, true, true, true, true, true, true, true, true, true, false, true, true, true, true, false, false, false] rfl rfl (one_of HT_.out (by kernel_rfl)) (by decide) (fun K hK => ?_)
             refine value_ (w1 := ?_) (v := ?_) (by rfl) rfl ?_ ?_
             rotate_left 2
             ·go_simp
              constructor
              ·rfl
              ·rfl
             refine hK.out _ _ ⟨(blk_cell (blk_alloc BK189.out _) 0).trans rfl, (blk_cell (blk_alloc BK189.out _) 1).trans rfl⟩ (fun hHeld => ?_)
             clear hK K
             refine nm_ ?_
             refine one_ (i := 11) (N := some 92) (tf 16 3) rfl rfl (one_of HT_.out (by kernel_rfl)) (by decide) (fun K hK => ?_)
             refine Kd.N_append_step k74 (w0 := w) w.heap.size (by rfl) (.tmp 86) (.tmp 91) 38 74 (.agg #[(.slice none 0 0), (.int .i64 0)]) 32 rfl Try.underlying38 info74 rfl (by decide) (by omega) v225 y224 (⟨t227, a2⟩ : S74) [.slice Ao74 t227.length co74, .int .i64 a2] (fun k_ => (P0_1_ k_ ∨ w.heap.size ≤ k_) ∧ k_ ≠ gb189 ∧ k_ ≠ gb190) (fun k_ => ((fun k_ => (P0_1_ k_ ∨ w.heap.size ≤ k_) ∧ k_ ≠ gb189 ∧ k_ ≠ gb190)) k_ ∧ some k_ ≠ (v225 : Value).ownBlock) rfl rfl ?aP (fun _ hk => hk) ?aF ?aO ?aB ?aS ?aL ?_
             (case aP => exact (k74_mkF _ _ (⟨t227, a2⟩ : S74) (Kd.R_reads' (Kd.R_mono (ok' := (fun k_ => ((fun k_ => (P0_1_ k_ ∨ w.heap.size ≤ k_) ∧ k_ ≠ gb189 ∧ k_ ≠ gb190)) k_ ∧ some k_ ≠ (v225 : Value).ownBlock)) (Kd.R_types (Kd.R_types (Kd.R_apart' (HO229.out) (Kd.N_typed HO226.out) (by decide)) BK189.out (by decide)) BK190.out (by decide)) (fun k_ hk => ⟨⟨(.inr (hk.1.1.1.1)), ⟨hk.1.2, hk.2⟩⟩, hk.1.1.2⟩))).2.1 (Kd.R_F (Kd.R_mono (ok' := (fun k_ => ((fun k_ => (P0_1_ k_ ∨ w.heap.size ≤ k_) ∧ k_ ≠ gb189 ∧ k_ ≠ gb190)) k_ ∧ some k_ ≠ (v225 : Value).ownBlock)) (Kd.R_types (Kd.R_types (Kd.R_apart' (HO229.out) (Kd.N_typed HO226.out) (by decide)) BK189.out (by decide)) BK190.out (by decide)) (fun k_ hk => ⟨⟨(.inr (hk.1.1.1.1)), ⟨hk.1.2, hk.2⟩⟩, hk.1.1.2⟩)))))
             (case aB => exact bb_)
             (case aF => exact (fun k_ hk => ⟨(.inr (Nat.le_trans (below_size bb_) hk)), Kd.freshB (g := gb189) (o := .cells #[.int .i64 a0_0, .slice A0_1 l0_1.length c0_1] 40 (0, 0)) (bkx_ BK189.out) k_ hk, Kd.freshB (g := gb190) (o := .cells #[.int .i64 0, .slice none 0 0] 40 (0, 0)) (bkx_ BK190.out) k_ hk⟩))
             (case aO => exact (by (with_reducible repeat (first | apply Kd.N_alloc | apply Kd.N_drewN | apply Kd.N_drew)); exact Kd.N_mono HO226.out (fun _ hk => ⟨hk.1.1, ⟨hk.1.2.1, hk.1.2.2⟩⟩)))
             (case aS => exact (below_size bb_))
             (case aL => have := LMc63.out; omega)
             intro v231 w75 ho hb hg hat
             rw [← Ny230.out] at ho
             have HO232 := Aside0.mk (ho)
             replace HO_190001 := Aside0.mk (Kd.V_afterv (ok := (fun k_ => (P0_1_ k_ ∨ w.heap.size ≤ k_) ∧ some k_ ≠ (.slice Ao74 t227.length co74 : Value).ownBlock ∧ k_ ≠ gb189 ∧ k_ ≠ gb190)) (by (with_reducible repeat (first | apply Kd.V_alloc | apply Kd.V_drewN | apply Kd.V_drew)); exact Kd.V_mono HO_190001.out (fun _ hk => ⟨⟨hk.1.1.1, ⟨hk.2, ⟨hk.1.1.2.1, hk.1.1.2.2⟩⟩⟩, hk.1.2⟩)) hg hat)
             replace BK189 := Aside0.mk (blk_grown (g := gb189) (o := .cells #[.int .i64 a0_0, .slice A0_1 l0_1.length c0_1] 40 (0, 0)) (bkx_ BK189.out) hg (Kd.N_ne HO226.out BK189.out (by decide)))
             replace BK190 := Aside0.mk (blk_grown (g := gb190) (o := .cells #[.int .i64 0, .slice none 0 0] 40 (0, 0)) (bkx_ BK190.out) hg (Kd.N_ne HO226.out BK190.out (by decide)))
             replace HO223 := Aside0.mk (Kd.V_afterv (ok := (fun k_ => (P0_1_ k_ ∨ w.heap.size ≤ k_) ∧ some k_ ≠ (.slice Ao74 t227.length co74 : Value).ownBlock ∧ k_ ≠ gb189 ∧ k_ ≠ gb190)) (by (with_reducible repeat (first | apply Kd.V_alloc | apply Kd.V_drewN | apply Kd.V_drew)); exact Kd.V_mono HO223.out (fun _ hk => ⟨⟨hk.1.1.1, ⟨hk.2, ⟨hk.1.1.2.1, hk.1.1.2.2⟩⟩⟩, hk.1.2⟩)) hg hat)
             replace HO237 := Aside0.mk (Kd.V_afterv (ok := (fun k_ => (P0_1_ k_ ∨ w.heap.size ≤ k_) ∧ some k_ ≠ (.slice Ao74 t227.length co74 : Value).ownBlock ∧ k_ ≠ gb189 ∧ k_ ≠ gb190)) (by (with_reducible repeat (first | apply Kd.V_alloc | apply Kd.V_drewN | apply Kd.V_drew)); exact Kd.V_mono HO237.out (fun _ hk => ⟨⟨hk.1.1.1, ⟨hk.2, ⟨hk.1.1.2.1, hk.1.1.2.2⟩⟩⟩, hk.1.2⟩)) hg hat)
             replace HB := Aside0.mk (hb)
             clear HO226 HO229
             clear ho hb hg hat
             refine hK.out _ _ ⟨bc_ BK189 0, bc_ BK189 1⟩ (fun hHeld => ?_)
             clear hK K
             refine nm_ ?_
             refine one_ (i := 16) (N := some 97) (tf 17 2) rfl rfl (one_of HT_.out (by kernel_rfl)) (by decide) (fun K hK => ?_)
             refine Kd.N_append_rows_step k74 (w0 := w) w.heap.size (by rfl) (.tmp 92) (.tmp 96) 38 74 (.agg #[(.slice none 0 0), (.int .i64 0)]) 32 rfl Try.underlying38 info74 rfl (by decide) (by omega) v231 y230 y233 _ _ _ (fun k_ => (P0_1_ k_ ∨ w.heap.size ≤ k_) ∧ k_ ≠ gb189 ∧ k_ ≠ gb190) (fun k_ => ((fun k_ => (P0_1_ k_ ∨ w.heap.size ≤ k_) ∧ k_ ≠ gb189 ∧ k_ ≠ gb190)) k_ ∧ some k_ ≠ (v231 : Value).ownBlock) rfl rfl ?aO ?aR (fun _ hk => hk) ?aF ?aB ?aS ?aL ?_
             (case aR => exact (by skip; exact Kd.V_F (Kd.V_mono (ok' := (fun k_ => ((fun k_ => (P0_1_ k_ ∨ w.heap.size ≤ k_) ∧ k_ ≠ gb189 ∧ k_ ≠ gb190)) k_ ∧ some k_ ≠ (v231 : Value).ownBlock)) (HO237.out) (fun k_ hk => ⟨⟨hk.1.1, ⟨hk.1.2.2.1, hk.1.2.2.2⟩⟩, hk.2⟩))))
             (case aB => exact bb_)
             (case aF => exact (fun k_ hk => ⟨(.inr (Nat.le_trans (below_size bb_) hk)), Kd.freshB (g := gb189) (o := .cells #[.int .i64 a0_0, .slice A0_1 l0_1.length c0_1] 40 (0, 0)) (bkx_ BK189.out) k_ hk, Kd.freshB (g := gb190) (o := .cells #[.int .i64 0, .slice none 0 0] 40 (0, 0)) (bkx_ BK190.out) k_ hk⟩))
             (case aO => exact (by (with_reducible repeat (first | apply Kd.N_alloc | apply Kd.N_drewN | apply Kd.N_drew)); exact HO232.out))
             (case aS => exact (below_size bb_))
             (case aL => have := LMc66.out; omega)
             intro v239 w76 ho hb hg hat
             rw [← Ny238.out] at ho
             have HO240 := Aside0.mk (ho)
             replace HO_190001 := Aside0.mk (Kd.V_afterv (ok := (fun k_ => (P0_1_ k_ ∨ w.heap.size ≤ k_) ∧ k_ ≠ gb189 ∧ k_ ≠ gb190)) (by (with_reducible repeat (first | apply Kd.V_alloc | apply Kd.V_drewN | apply Kd.V_drew)); exact Kd.V_mono HO_190001.out (fun _ hk => ⟨⟨hk.1.1, ⟨hk.1.2.2.1, hk.1.2.2.2⟩⟩, hk.2⟩)) hg hat)
             replace BK189 := Aside0.mk (blk_grown (g := gb189) (o := .cells #[.int .i64 a0_0, .slice A0_1 l0_1.length c0_1] 40 (0, 0)) (bkx_ BK189.out) hg (Kd.N_ne HO232.out BK189.out (by decide)))
             replace BK190 := Aside0.mk (blk_grown (g := gb190) (o := .cells #[.int .i64 0, .slice none 0 0] 40 (0, 0)) (bkx_ BK190.out) hg (Kd.N_ne HO232.out BK190.out (by decide)))
             replace HO223 := Aside0.mk (Kd.V_afterv (ok := (fun k_ => (P0_1_ k_ ∨ w.heap.size ≤ k_) ∧ k_ ≠ gb189 ∧ k_ ≠ gb190)) (by (with_reducible repeat (first | apply Kd.V_alloc | apply Kd.V_drewN | apply Kd.V_drew)); exact Kd.V_mono HO223.out (fun _ hk => ⟨⟨hk.1.1, ⟨hk.1.2.2.1, hk.1.2.2.2⟩⟩, hk.2⟩)) hg hat)
             replace HO237 := Aside0.mk (Kd.V_afterv (ok := (fun k_ => (P0_1_ k_ ∨ w.heap.size ≤ k_) ∧ k_ ≠ gb189 ∧ k_ ≠ gb190)) (by (with_reducible repeat (first | apply Kd.V_alloc | apply Kd.V_drewN | apply Kd.V_drew)); exact Kd.V_mono HO237.out (fun _ hk => ⟨⟨hk.1.1, ⟨hk.1.2.2.1, hk.1.2.2.2⟩⟩, hk.2⟩)) hg hat)
             replace HB := Aside0.mk (hb)
             clear HO232
             clear ho hb hg hat
             obtain ⟨Ao77, co77, eo77⟩ := Kd.N_slice HO240.out
             (first | subst eo77 | (injection eo77 with f1_ f2_ f3_; have f4_ := f1_.symm; have f5_ := f3_.symm; clear f1_ f2_ f3_; subst f4_; subst f5_))
             refine hK.out _ _ ⟨bc_ BK189 0, bc_ BK189 1⟩ (fun hHeld => ?_)
             clear hK K
             refine nm_ ?_
             refine plx_ 17 (tf 18 1) ?_
             refine last_ (i := 18) (N := none) (tf 19 0) rfl rfl (one_of HT_.out (by kernel_rfl)) (by decide) (fun K hK => ?_)
             have hs78 : w76.cell? ⟨gb189, 1, none⟩ = some (.slice A0_1 l0_1.length c0_1) := bc_ BK189 1
             have hfs78 := blk_frozen BK189.out 1
             have hns78_1 := NB190_189.out
             have hms78_1 := NB189_190.out
             refine skip_ (w1 := ?_) (by rfl) rfl ?_ ?_
             rotate_left
             ·go_simp
              rfl
             refine hK.out _ _ ?_
             clear hK K
             refine done_ (done_of HT_.out (by kernel_rfl)) ?_
             have hnb79 := NB189_190.out
             have hnc79 := NB190_189.out
             obtain ⟨hcz80_0, hcz80_1, hfz80_0, hfz80_1⟩ := b2_ BK189
             obtain ⟨hcz81_0, hcz81_1, hfz81_0, hfz81_1⟩ := b2_ BK190
             try go_wp2
             refine bodyPost_ret (results_cell_row rfl _ _ gb190 40 #[.int .i64 a0_0, .slice Ao77 y238.length co77] (0, 0) _ rfl (by (with_reducible repeat (first | refine blk_drewN ?_ _ | refine blk_drew ?_ | refine blk_alloc ?_ _)); refine blk_put (cs := #[.int .i64 a0_0, .slice none 0 0]) ?_ 1 _ rfl; (with_reducible repeat (first | refine blk_drewN ?_ _ | refine blk_drew ?_ | refine blk_alloc ?_ _)); refine blk_put (cs := #[.int .i64 0, .slice none 0 0]) ?_ 0 _ rfl; (with_reducible repeat (first | refine blk_drewN ?_ _ | refine blk_drew ?_ | refine blk_alloc ?_ _)); refine blk_far ?_ NB190_189.out _; (with_reducible repeat (first | refine blk_drewN ?_ _ | refine blk_drew ?_ | refine blk_alloc ?_ _)); exact BK190.out) Try.underlying40 rfl (by kernel_rfl)) rfl ?_
             exact ⟨_, by first | rfl | (simp [errW_none, errW_some] <;> rfl) | (simp [*, errW_none, errW_some] <;> rfl), Kd.N_lower (by (with_reducible repeat (first | apply Kd.N_alloc | apply Kd.N_drewN | apply Kd.N_drew)); exact Kd.N_mono (Kd.N_far (p := ⟨gb190, 1, none⟩) (Kd.N_far (p := ⟨gb190, 0, none⟩) (Kd.N_far (p := ⟨gb189, 1, none⟩) (Kd.N_mono (Kd.N_mono HO240.out (fun k_ hk => (⟨hk, hk.2.1⟩ : _ ∧ k_ ≠ gb189))) (fun k_ hk => (⟨hk, hk.1.2.2⟩ : _ ∧ k_ ≠ gb190))) (fun _ hk => hk.1.2) (.slice Ao77 y238.length co77)) (fun _ hk => hk.2) (.int .i64 a0_0)) (fun _ hk => hk.2) (.slice Ao77 y238.length co77)) (fun _ hk => hk.1.1.1)) hb_, grown_of_below (by repeat (first | (with_reducible first | exact HB.out | apply below_alloc | apply pw_below_drewN | apply below_drew1 | refine below_set ?_ GE189.out | refine below_set ?_ GE190.out) | exact HB.out)) _, .inr (Kd.N_base HO240.out)⟩
            ·rw [if_neg c66] at H
             exact absurd H (by simp)
           ·rw [if_neg c63] at H
            exact absurd H (by simp)
          ·rw [if_neg c61] at H
           exact absurd H (by simp)
         ·rw [if_neg c60] at H
          exact absurd H (by simp)
        ·rw [if_neg c59] at H
         exact absurd H (by simp)

end Go.Proofs.Ytapgfamppnhnmaa.PFnExactBagOf
