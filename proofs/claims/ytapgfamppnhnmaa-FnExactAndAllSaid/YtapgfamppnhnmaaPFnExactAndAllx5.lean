-- WRITTEN BY xprint.py, a program of this session over the kit's printer: by nobody's hand
-- PRESSED
import Derived.Test.YtapgfamppnhnmaaPress
import Derived.Test.YtapgfamppnhnmaaPFnExactAndAllx0
import Derived.Test.YtapgfamppnhnmaaPFnExactAndAllx2
import Derived.Test.YtapgfamppnhnmaaPFnExactAndAllx4
namespace Go.Proofs.Ytapgfamppnhnmaa.PFnExactAndAll
open Go.RowKit Go.Proofs.YtapgfamppnhnmaaW.PrintWords Go.Proofs.YtapgfamppnhnmaaW.PrintLast Go.Proofs.YtapgfamppnhnmaaW.PrintMore
attribute [local go_sem] max2_int min2_int max_two min_two max_three min_three max_four min_four   -- for this text's walks alone
set_option linter.unusedVariables false
set_option linter.unusedSimpArgs false

/-! ### spec_ExpOk: function 33 -/
def spec_ExpOk.f (k : Nat) (a0_0 : Int) (a0_1 : Int) (a0_2 : Int) (a0_3 : Int) (a0_4 : ByteArray) (a0_5 : ByteArray) (l0_6 : List (S28)) : Option (Bool) := (spec_l03Right.f k a0_0 a0_1 a0_2 a0_3 a0_4 a0_5 l0_6 12).bind fun t141 => (some t141)
set_option maxHeartbeats 8000000 in
set_option maxRecDepth 100000 in
theorem spec_ExpOk.calls (k : Nat) (a0_0 : Int) (a0_1 : Int) (a0_2 : Int) (a0_3 : Int) (a0_4 : ByteArray) (a0_5 : ByteArray) (A0_6 : Option Addr) (c0_6 : Nat) (l0_6 : List (S28)) (r : Bool) (w : World) (hr0_6 : Kd.C k28 w A0_6 l0_6.length l0_6) (hc0_6 : l0_6.length ≤ c0_6) (h : spec_ExpOk.f k a0_0 a0_1 a0_2 a0_3 a0_4 a0_5 l0_6 = some r) :
  Calls Try.prog 33 #[.agg #[.int .i64 a0_0, .int .i64 a0_1, .int .i64 a0_2, .int .i64 a0_3, .string a0_4, .string a0_5, .slice A0_6 l0_6.length c0_6]] w fun e w' => e = .returned (.bool r) ∧ Below w.heap.size w w' := by
 have hu28 := Try.underlying28
 have HR0_6 := Aside0.mk hr0_6
 have HC0_6 := Aside0.mk hc0_6
 clear hr0_6 hc0_6
 have HB := Aside0.mk (Below.refl w.heap.size w)
 have H : ((spec_l03Right.f k a0_0 a0_1 a0_2 a0_3 a0_4 a0_5 l0_6 12).bind fun t141 => (some t141)) = some r := h
 clear h
 replace H := Option.bind_eq_some_iff.mp H
 obtain ⟨t141, A20, H⟩ := H
 replace H : (some t141) = some r := H
 have A2 := Aside0.mk A20
 clear A20
 obtain rfl := Option.some.inj H
 go_enter Try.func33, Try.ntmps33
 go_wp2_with (first | ((with_reducible refine gate_dst (N := 1) rfl ?_); refine bx_ 1 #[.int .i64 a0_0, .int .i64 a0_1, .int .i64 a0_2, .int .i64 a0_3, .string a0_4, .string a0_5, .slice A0_6 l0_6.length c0_6] 28 ?_; intro gb140 hg w3 hbox hb; have BK140 := Aside0.mk (hbox); have GW140 := gw_ hg; have GE140 := gw_ hg; replace HB := bs_ hb; clear hb hbox hg; obtain ⟨hcz4_0, hcz4_1, hcz4_2, hcz4_3, hcz4_4, hcz4_5, hcz4_6, hfz4_0, hfz4_1, hfz4_2, hfz4_3, hfz4_4, hfz4_5, hfz4_6⟩ := b7_ BK140) | ((with_reducible refine gate_callee (f := 70) rfl ?_); refine gsL_ (some 4) Try.func70 #[.agg #[.int .i64 a0_0, .int .i64 a0_1, .int .i64 a0_2, .int .i64 a0_3, .string a0_4, .string a0_5, .slice A0_6 l0_6.length c0_6], .int .i64 12] ?_; (with_reducible refine (spec_l03Right.calls k a0_0 a0_1 a0_2 a0_3 a0_4 a0_5 _ _ l0_6 12 t141 _ ?side1 ?side2 A2.out).mono ?_); (case side1 => exact ck_ (Kd.C_below HR0_6.out HB.out)); (case side2 => exact HC0_6.out); rintro e w5 ⟨rfl, hb⟩; refine ⟨_, rfl, ?_⟩; replace BK140 := bkb_ BK140 hb; replace HB := bs_ hb; (try clear hb); (try clear hb2); (try clear hk); (try clear hi)))
 go_ret
 exact ⟨er_, bb_⟩

/-! ### spec_AndAll: function 7 -/
def spec_AndAll.l0 : Nat → List (S28) → Int → Int → Int → Int → Int → ByteArray → ByteArray → List (S28) → Option (Int × Int × Int × Int × ByteArray × ByteArray × (List (S28)))
 | 0, _, _, _, _, _, _, _, _, _ => none
 | k + 1, x0, x4, x156000, x156001, x156002, x156003, x156004, x156005, x156006 => if x4 < (x0.length : Int) then (if x4 = 0 then (if 0 < (x0.length : Int) then ((spec_l03Copy.f k ((rd_T28 x0 0).f0) ((rd_T28 x0 0).f1) ((rd_T28 x0 0).f2.f0) ((rd_T28 x0 0).f2.f1) ((rd_T28 x0 0).f2.f2) ((rd_T28 x0 0).f3) ((rd_T28 x0 0).f4)).bind fun bt157 => (spec_AndAll.l0 k x0 (wrap64 (x4 + 1)) bt157.1 bt157.2.1 bt157.2.2.1 bt157.2.2.2.1 bt157.2.2.2.2.1 bt157.2.2.2.2.2.1 bt157.2.2.2.2.2.2)) else (none)) else (if 0 ≤ x4 then ((spec_l03Copy.f k ((rd_T28 x0 x4).f0) ((rd_T28 x0 x4).f1) ((rd_T28 x0 x4).f2.f0) ((rd_T28 x0 x4).f2.f1) ((rd_T28 x0 x4).f2.f2) ((rd_T28 x0 x4).f3) ((rd_T28 x0 x4).f4)).bind fun bt167 => (spec_AndAll.l0 k x0 (wrap64 (x4 + 1)) 2 0 0 0 (⟨#[]⟩ : ByteArray) (⟨#[97, 110, 100]⟩ : ByteArray) (([(⟨x156000, x156001, (⟨x156002, x156003, x156004⟩ : S25), x156005, x156006⟩ : S28), (⟨bt167.1, bt167.2.1, (⟨bt167.2.2.1, bt167.2.2.2.1, bt167.2.2.2.2.1⟩ : S25), bt167.2.2.2.2.2.1, bt167.2.2.2.2.2.2⟩ : S28)] : List (S28))))) else (none))) else ((spec_ExpOk.f k x156000 x156001 x156002 x156003 x156004 x156005 x156006).bind fun t179 => (if t179 = true then (some (x156000, x156001, x156002, x156003, x156004, x156005, x156006)) else ((spec_l03Const.f 0 0 (⟨#[]⟩ : ByteArray)).bind fun bt180 => (some (bt180.1, bt180.2.1, bt180.2.2.1, bt180.2.2.2.1, bt180.2.2.2.2.1, bt180.2.2.2.2.2.1, bt180.2.2.2.2.2.2)))))
def spec_AndAll.f (k : Nat) (l0 : List (S28)) : Option (Int × Int × Int × Int × ByteArray × ByteArray × (List (S28))) := (spec_l01Bool.f true).bind fun bt143 => ((spec_l03Const.f bt143.1 bt143.2.1 bt143.2.2).bind fun bt146 => (spec_AndAll.l0 k l0 0 bt146.1 bt146.2.1 bt146.2.2.1 bt146.2.2.2.1 bt146.2.2.2.2.1 bt146.2.2.2.2.2.1 bt146.2.2.2.2.2.2))
def spec_AndAll.T7 : Bool × List (List Nat × List Nat) := (true, [([], []), ([], []), ([], []), ([1, 2], [1, 2]), ([3], [3]), ([4], [4]), ([0, 5], [0, 5]), ([6], [6]), ([7, 5, 0, 1, 2, 3, 4, 5, 6, 7], [7])])
def spec_AndAll.B7 : List Nat := [0, 0, 0, 6, 14, 30, 63, 127, 255]
theorem spec_AndAll.tab7 : rtab .any (opsOf Try.f7 7) = spec_AndAll.T7 := by kernel_rfl
theorem spec_AndAll.bits7 : waitsOk spec_AndAll.T7.2 spec_AndAll.B7 = true := by kernel_rfl
set_option maxHeartbeats 8000000 in
set_option maxRecDepth 100000 in
theorem spec_AndAll.calls (k : Nat) (A0 : Option Addr) (c0 : Nat) (l0 : List (S28)) (r1 : Int) (r2 : Int) (r3 : Int) (r4 : Int) (r5 : ByteArray) (r6 : ByteArray) (r7 : List (S28)) (w : World) (hr0 : Kd.C k28 w A0 l0.length l0) (hc0 : l0.length ≤ c0) (h : spec_AndAll.f k l0 = some (r1, r2, r3, r4, r5, r6, r7)) :
  Calls Try.prog 7 #[.slice A0 l0.length c0] w fun e w' => ∃ v6_ : Value, e = .returned (.agg #[.int .i64 r1, .int .i64 r2, .int .i64 r3, .int .i64 r4, .string r5, .string r6, v6_]) ∧ Kd.N k28 28 w' w.heap.size (fun k_ => (w.heap.size ≤ k_)) v6_ r7 ∧ Below w.heap.size w w' := by
 have hu28 := Try.underlying28
 have hu25 := Try.underlying25
 have HR0 := Aside0.mk hr0
 have HC0 := Aside0.mk hc0
 clear hr0 hc0
 have HB := Aside0.mk (Below.refl w.heap.size w)
 have H : ((spec_l01Bool.f true).bind fun bt143 => ((spec_l03Const.f bt143.1 bt143.2.1 bt143.2.2).bind fun bt146 => (spec_AndAll.l0 k l0 0 bt146.1 bt146.2.1 bt146.2.2.1 bt146.2.2.2.1 bt146.2.2.2.2.1 bt146.2.2.2.2.2.1 bt146.2.2.2.2.2.2))) = some (r1, r2, r3, r4, r5, r6, r7) := h
 clear h
 replace H := Option.bind_eq_some_iff.mp H
 obtain ⟨⟨t143, t144, t145⟩, A20, H⟩ := H
 replace H : ((spec_l03Const.f t143 t144 t145).bind fun bt146 => (spec_AndAll.l0 k l0 0 bt146.1 bt146.2.1 bt146.2.2.1 bt146.2.2.2.1 bt146.2.2.2.2.1 bt146.2.2.2.2.2.1 bt146.2.2.2.2.2.2)) = some (r1, r2, r3, r4, r5, r6, r7) := H
 have A2 := Aside0.mk A20
 clear A20
 replace H := Option.bind_eq_some_iff.mp H
 obtain ⟨⟨t146, t147, t148, t149, t150, t151, t152⟩, A30, H⟩ := H
 replace H : (spec_AndAll.l0 k l0 0 t146 t147 t148 t149 t150 t151 t152) = some (r1, r2, r3, r4, r5, r6, r7) := H
 have A3 := Aside0.mk A30
 clear A30
 have H' := Aside0.mk H
 clear H
 go_enter Try.func7, Try.ntmps7
 go_wp2_with (first | ((with_reducible refine gate_dst (N := 2) rfl ?_); refine bx_ 2 #[.int .i64 0, .int .i64 0, .int .i64 0, .int .i64 0, .string (⟨#[]⟩ : ByteArray), .string (⟨#[]⟩ : ByteArray), .slice none 0 0] 28 ?_; intro gb142 hg w4 hbox hb; have BK142 := Aside0.mk (hbox); have GW142 := gw_ hg; have GE142 := gw_ hg; replace HB := bs_ hb; clear hb hbox hg) | ((with_reducible refine gate_callee (f := 31) rfl ?_); refine gsL_ (some 5) Try.func31 #[.bool true] ?_; (with_reducible refine (spec_l01Bool.calls true t143 t144 t145 _ A2.out).mono ?_); rintro e w5 ⟨rfl, hb⟩; refine ⟨_, rfl, ?_⟩; replace BK142 := bkb_ BK142 hb; replace HB := bs_ hb; (try clear hb); (try clear hb2); (try clear hk); (try clear hi)) | ((with_reducible refine gate_callee (f := 30) rfl ?_); refine gsL_ (some 6) Try.func30 #[.agg #[.int .i64 t143, .int .i64 t144, .string t145]] ?_; (with_reducible refine (spec_l03Const.calls t143 t144 t145 t146 t147 t148 t149 t150 t151 t152 _ A3.out).mono ?_); rintro e w6 ⟨v153, rfl, ho0, hb⟩; refine ⟨_, rfl, ?_⟩; have HO154 := Aside0.mk (Kd.N_lower (Kd.N_mono (ok' := fun k_ => (w.heap.size ≤ k_) ∧ k_ ≠ gb142) (Kd.S_N (Kd.S_bound ho0)) (fun k_ hk_ => ⟨(Nat.le_trans (below_size bb_) hk_.2.1), (Kd.freshB (g := gb142) (o := .cells #[.int .i64 0, .int .i64 0, .int .i64 0, .int .i64 0, .string (⟨#[]⟩ : ByteArray), .string (⟨#[]⟩ : ByteArray), .slice none 0 0] 28 (0, 0)) (bkx_ BK142.out) k_ hk_.2.1)⟩)) (below_size bb_)); replace BK142 := bkb_ BK142 hb; replace HB := bs_ hb; (try clear hb); (try clear hb2); (try clear hk); (try clear hi); (try clear ho0)) | ((with_reducible refine gate_dst (N := 3) rfl ?_); refine bx_ 3 #[.int .i64 0, .int .i64 0, .int .i64 0, .int .i64 0, .string (⟨#[]⟩ : ByteArray), .string (⟨#[]⟩ : ByteArray), .slice none 0 0] 28 ?_; intro gb155 hg w7 hbox hb; have BK155 := Aside0.mk (hbox); have GW155 := gw_ hg; have GE155 := gw_ hg; have NB142_155 := nl_ hg BK142; have NB155_142 := ng_ hg BK142; replace HO154 := Aside0.mk (Kd.N_below (Kd.N_elderB (by (with_reducible repeat (first | apply Kd.N_alloc | apply Kd.N_drewN | apply Kd.N_drew)); exact HO154.out) gb155 (Nat.le_of_eq hg.symm)) hb); replace BK142 := bkb_ BK142 hb; replace HB := bs_ hb; clear hb hbox hg; have hnb8 := NB155_142.out; have hnc8 := NB142_155.out; obtain ⟨hcz9_0, hcz9_1, hcz9_2, hcz9_3, hcz9_4, hcz9_5, hcz9_6, hfz9_0, hfz9_1, hfz9_2, hfz9_3, hfz9_4, hfz9_5, hfz9_6⟩ := b7_ BK155; obtain ⟨Ao10, co10, eo10⟩ := Kd.N_slice HO154.out; subst eo10))
 go_loopg [4] k (fun kq v4 w' => ∃ (x4_1 : Int) (x156000_1 : Int) (x156001_1 : Int) (x156002_1 : Int) (x156003_1 : Int) (x156004_1 : ByteArray) (x156005_1 : ByteArray) (x156006_1 : List (S28)) (u156006 : Value), v4 = .int .i64 x4_1 ∧ Aside0 (spec_AndAll.l0 kq l0 x4_1 x156000_1 x156001_1 x156002_1 x156003_1 x156004_1 x156005_1 x156006_1 = some (r1, r2, r3, r4, r5, r6, r7)) ∧ Aside0 (kq ≤ k) ∧ Aside0 (Kd.N k28 28 w' w.heap.size (fun k_ => (w.heap.size ≤ k_) ∧ k_ ≠ gb142 ∧ k_ ≠ gb155) u156006 x156006_1) ∧ Aside0 (w'.heap[gb142]? = some (.cells #[.int .i64 0, .int .i64 0, .int .i64 0, .int .i64 0, .string (⟨#[]⟩ : ByteArray), .string (⟨#[]⟩ : ByteArray), (.slice none 0 0)] 28 (0, 0))) ∧ Aside0 (w'.heap[gb155]? = some (.cells #[.int .i64 x156000_1, .int .i64 x156001_1, .int .i64 x156002_1, .int .i64 x156003_1, .string x156004_1, .string x156005_1, u156006] 28 (0, 0))) ∧ Aside0 (Below w.heap.size w w'))
 case atStart => exact ⟨(0), (t146), (t147), (t148), (t149), (t150), (t151), (t152), (.slice Ao10 t152.length co10), rs_, H', ⟨Nat.le_refl _⟩, ⟨by (with_reducible repeat (first | apply Kd.N_alloc | apply Kd.N_drewN | apply Kd.N_drew)); exact Kd.N_mono (Kd.N_far (p := ⟨gb155, 6, none⟩) (Kd.N_far (p := ⟨gb155, 5, none⟩) (Kd.N_far (p := ⟨gb155, 4, none⟩) (Kd.N_far (p := ⟨gb155, 3, none⟩) (Kd.N_far (p := ⟨gb155, 2, none⟩) (Kd.N_far (p := ⟨gb155, 1, none⟩) (Kd.N_far (p := ⟨gb155, 0, none⟩) (Kd.N_mono HO154.out (fun k_ hk => (⟨hk, hk.2⟩ : _ ∧ k_ ≠ gb155))) (fun _ hk => hk.2) (.int .i64 t146)) (fun _ hk => hk.2) (.int .i64 t147)) (fun _ hk => hk.2) (.int .i64 t148)) (fun _ hk => hk.2) (.int .i64 t149)) (fun _ hk => hk.2) (.string t150)) (fun _ hk => hk.2) (.string t151)) (fun _ hk => hk.2) (.slice Ao10 t152.length co10)) (fun _ hk => ⟨hk.1.1.1, ⟨hk.1.1.2, hk.1.2⟩⟩)⟩, ⟨(bf7_ NB142_155 (bkx_ BK142.out))⟩, ⟨(bp7_ (bkx_ BK155.out))⟩, ⟨bb_⟩⟩
 case round =>
  clear H'
  try clear p2
  try clear c3
  try clear c7
  try clear c8
  try clear hcz9_0
  try clear hcz9_1
  try clear hcz9_2
  try clear hcz9_3
  try clear hcz9_4
  try clear hcz9_5
  try clear hcz9_6
  try clear hfz9_0
  try clear hfz9_1
  try clear hfz9_2
  try clear hfz9_3
  try clear hfz9_4
  try clear hfz9_5
  try clear hfz9_6
  try clear BK142
  try clear BK155
  obtain ⟨x4_1, x156000_1, x156001_1, x156002_1, x156003_1, x156004_1, x156005_1, x156006_1, u156006, rfl, HA, HK1, HO_156006, BK142, BK155, HB⟩ := hrel
  cases gk with
  | zero => exact absurd HA.out (by simp [spec_AndAll.l0])
  | succ k1 =>
   have H := HA.out
   clear HA
   simp only [spec_AndAll.l0] at H
   by_cases c11 : x4_1 < (l0.length : Int)
   ·rw [if_pos c11] at H
    have c11b0 : decide (x4_1 < (l0.length : Int)) = true := decide_eq_true c11
    clear c11
    by_cases c12 : x4_1 = 0
    ·rw [if_pos c12] at H
     have c12b0 : (x4_1 == 0) = true := beq_iff_eq.mpr c12
     have c12b1 : (x4_1 != 0) = false := bne_eq_false_iff_eq.mpr c12
     clear c12
     by_cases c13 : 0 < (l0.length : Int)
     ·rw [if_pos c13] at H
      have c13b0 : decide (0 < (l0.length : Int)) = true := decide_eq_true c13
      have c13b1 : decide (0 < l0.length) = true := decide_eq_true (by omega)
      clear c13
      replace H := Option.bind_eq_some_iff.mp H
      obtain ⟨⟨t157, t158, t159, t160, t161, t162, t163⟩, A140, H⟩ := H
      replace H : (spec_AndAll.l0 k1 l0 (wrap64 (x4_1 + 1)) t157 t158 t159 t160 t161 t162 t163) = some (r1, r2, r3, r4, r5, r6, r7) := H
      have A14 := Aside0.mk A140
      clear A140
      have H' := Aside0.mk H
      clear H
      have p156 : 0 ≤ (0 : Int) := (by omega)
      have q156 : 0 < (l0.length : Int) := of_decide_eq_true (by first | (with_reducible assumption) | assumption)
      obtain ⟨ad156, A156_6, c156_6, e156, hx156_0, hx156_1, hx156_2, hx156_3, hx156_4, hx156_5, hx156_6, hl156_6, hi156_6⟩ := at_T28 HR0.out 0 p156 q156
      cases e156
      have qi156 : (0 < l0.length) = True := eq_true (by omega)
      (try rw [show ((0 : Int)).toNat = 0 from rfl] at hx156_0)
      (try rw [show 0 * 7 = 0 from rfl] at hx156_0)
      (try rw [Addr.add_zero'] at hx156_0)
      (try rw [show ((0 : Int)).toNat = 0 from rfl] at hx156_1)
      (try rw [show 0 * 7 = 0 from rfl] at hx156_1)
      (try rw [Addr.add_zero'] at hx156_1)
      (try rw [show ((0 : Int)).toNat = 0 from rfl] at hx156_2)
      (try rw [show 0 * 7 = 0 from rfl] at hx156_2)
      (try rw [Addr.add_zero'] at hx156_2)
      (try rw [show ((0 : Int)).toNat = 0 from rfl] at hx156_3)
      (try rw [show 0 * 7 = 0 from rfl] at hx156_3)
      (try rw [Addr.add_zero'] at hx156_3)
      (try rw [show ((0 : Int)).toNat = 0 from rfl] at hx156_4)
      (try rw [show 0 * 7 = 0 from rfl] at hx156_4)
      (try rw [Addr.add_zero'] at hx156_4)
      (try rw [show ((0 : Int)).toNat = 0 from rfl] at hx156_5)
      (try rw [show 0 * 7 = 0 from rfl] at hx156_5)
      (try rw [Addr.add_zero'] at hx156_5)
      (try rw [show ((0 : Int)).toNat = 0 from rfl] at hx156_6)
      (try rw [show 0 * 7 = 0 from rfl] at hx156_6)
      (try rw [Addr.add_zero'] at hx156_6)
      replace hx156_0 := hb_ HB hx156_0
      replace hx156_1 := hb_ HB hx156_1
      replace hx156_2 := hb_ HB hx156_2
      replace hx156_3 := hb_ HB hx156_3
      replace hx156_4 := hb_ HB hx156_4
      replace hx156_5 := hb_ HB hx156_5
      replace hx156_6 := hb_ HB hx156_6
      have HR156_6 := Aside0.mk hi156_6
      have HC156_6 := Aside0.mk hl156_6
      clear hi156_6 hl156_6
      replace p156 := eq_true p156
      replace q156 := eq_true q156
      go_wp2_with (first | ((with_reducible refine gate_callee (f := 32) rfl ?_); refine gsL_ (some 18) Try.func32 #[.agg #[.int .i64 ((rd_T28 l0 0).f0), .int .i64 ((rd_T28 l0 0).f1), .int .i64 ((rd_T28 l0 0).f2.f0), .int .i64 ((rd_T28 l0 0).f2.f1), .string ((rd_T28 l0 0).f2.f2), .string ((rd_T28 l0 0).f3), .slice A156_6 ((rd_T28 l0 0).f4).length c156_6]] ?_; (with_reducible refine (spec_l03Copy.calls k1 ((rd_T28 l0 0).f0) ((rd_T28 l0 0).f1) ((rd_T28 l0 0).f2.f0) ((rd_T28 l0 0).f2.f1) ((rd_T28 l0 0).f2.f2) ((rd_T28 l0 0).f3) _ _ ((rd_T28 l0 0).f4) t157 t158 t159 t160 t161 t162 t163 _ ?side1 ?side2 A14.out).mono ?_); (case side1 => exact ck_ (Kd.C_below HR156_6.out HB.out)); (case side2 => exact HC156_6.out); rintro e w15 ⟨v164, rfl, ho0, hb⟩; refine ⟨_, rfl, ?_⟩; have HO165 := Aside0.mk (Kd.N_lower (Kd.N_mono (ok' := fun k_ => (w.heap.size ≤ k_) ∧ some k_ ≠ (u156006 : Value).ownBlock ∧ k_ ≠ gb142 ∧ k_ ≠ gb155) (Kd.S_N (Kd.S_bound ho0)) (fun k_ hk_ => ⟨(Nat.le_trans (below_size bb_) hk_.2.1), (Kd.fresh' (Kd.N_lt (by (with_reducible repeat (first | apply Kd.N_alloc | apply Kd.N_drewN | apply Kd.N_drew)); exact HO_156006.out)) k_ hk_.2.1), (Kd.freshB (g := gb142) (o := .cells #[.int .i64 0, .int .i64 0, .int .i64 0, .int .i64 0, .string (⟨#[]⟩ : ByteArray), .string (⟨#[]⟩ : ByteArray), .slice none 0 0] 28 (0, 0)) (bkx_ BK142.out) k_ hk_.2.1), (Kd.freshB (g := gb155) (o := .cells #[.int .i64 x156000_1, .int .i64 x156001_1, .int .i64 x156002_1, .int .i64 x156003_1, .string x156004_1, .string x156005_1, u156006] 28 (0, 0)) (bkx_ BK155.out) k_ hk_.2.1)⟩)) (below_size bb_)); replace HO_156006 := Aside0.mk (Kd.N_elder' (by (with_reducible repeat (first | apply Kd.N_alloc | apply Kd.N_drewN | apply Kd.N_drew)); exact HO_156006.out) (Kd.S_base ho0) hb); replace BK142 := bkb_ BK142 hb; replace BK155 := bkb_ BK155 hb; replace HB := bs_ hb; (try clear hb); (try clear hb2); (try clear hk); (try clear hi); (try clear ho0); have hnb16 := NB155_142.out; have hnc16 := NB142_155.out; obtain ⟨hcz17_0, hcz17_1, hcz17_2, hcz17_3, hcz17_4, hcz17_5, hcz17_6, hfz17_0, hfz17_1, hfz17_2, hfz17_3, hfz17_4, hfz17_5, hfz17_6⟩ := b7_ BK155; obtain ⟨Ao18, co18, eo18⟩ := Kd.N_slice HO165.out; subst eo18))
      go_roundg k1
      case measure => have := HK1.out; omega
      case rel => exact ⟨(wrap64 (x4_1 + 1)), (t157), (t158), (t159), (t160), (t161), (t162), (t163), (.slice Ao18 t163.length co18), rs_, H', ⟨by have := HK1.out; omega⟩, ⟨by (with_reducible repeat (first | apply Kd.N_alloc | apply Kd.N_drewN | apply Kd.N_drew)); exact Kd.N_mono (Kd.N_far (p := ⟨gb155, 6, none⟩) (Kd.N_far (p := ⟨gb155, 5, none⟩) (Kd.N_far (p := ⟨gb155, 4, none⟩) (Kd.N_far (p := ⟨gb155, 3, none⟩) (Kd.N_far (p := ⟨gb155, 2, none⟩) (Kd.N_far (p := ⟨gb155, 1, none⟩) (Kd.N_far (p := ⟨gb155, 0, none⟩) (Kd.N_mono HO165.out (fun k_ hk => (⟨hk, hk.2.2.2⟩ : _ ∧ k_ ≠ gb155))) (fun _ hk => hk.2) (.int .i64 t157)) (fun _ hk => hk.2) (.int .i64 t158)) (fun _ hk => hk.2) (.int .i64 t159)) (fun _ hk => hk.2) (.int .i64 t160)) (fun _ hk => hk.2) (.string t161)) (fun _ hk => hk.2) (.string t162)) (fun _ hk => hk.2) (.slice Ao18 t163.length co18)) (fun _ hk => ⟨hk.1.1, ⟨hk.1.2.2.1, hk.1.2.2.2⟩⟩)⟩, ⟨(bf7_ NB142_155 (bkx_ BK142.out))⟩, ⟨(bp7_ (bkx_ BK155.out))⟩, ⟨bb_⟩⟩
     ·rw [if_neg c13] at H
      exact absurd H (by simp)
    ·rw [if_neg c12] at H
     have c12b0 : (x4_1 == 0) = false := beq_eq_false_iff_ne.mpr c12
     have c12b1 : (x4_1 != 0) = true := bne_iff_ne.mpr c12
     by_cases c19 : 0 ≤ x4_1
     ·rw [if_pos c19] at H
      have c19b0 : decide (0 ≤ x4_1) = true := decide_eq_true c19
      clear c19
      replace H := Option.bind_eq_some_iff.mp H
      obtain ⟨⟨t167, t168, t169, t170, t171, t172, t173⟩, A200, H⟩ := H
      replace H : (spec_AndAll.l0 k1 l0 (wrap64 (x4_1 + 1)) 2 0 0 0 (⟨#[]⟩ : ByteArray) (⟨#[97, 110, 100]⟩ : ByteArray) (([(⟨x156000_1, x156001_1, (⟨x156002_1, x156003_1, x156004_1⟩ : S25), x156005_1, x156006_1⟩ : S28), (⟨t167, t168, (⟨t169, t170, t171⟩ : S25), t172, t173⟩ : S28)] : List (S28)))) = some (r1, r2, r3, r4, r5, r6, r7) := H
      have A20 := Aside0.mk A200
      clear A200
      obtain ⟨y176, hy176⟩ : ∃ y_ : List (S28), y_ = (([(⟨x156000_1, x156001_1, (⟨x156002_1, x156003_1, x156004_1⟩ : S25), x156005_1, x156006_1⟩ : S28), (⟨t167, t168, (⟨t169, t170, t171⟩ : S25), t172, t173⟩ : S28)] : List (S28))) := ⟨_, rfl⟩
      replace H : (spec_AndAll.l0 k1 l0 (wrap64 (x4_1 + 1)) 2 0 0 0 (⟨#[]⟩ : ByteArray) (⟨#[97, 110, 100]⟩ : ByteArray) y176) = some (r1, r2, r3, r4, r5, r6, r7) := by first | (rw [hy176]; with_reducible exact H) | (have H2_ := (Option.bind_some _ _).symm.trans H; rw [hy176]; with_reducible exact H2_) | (have H2_ := (Option.bind_some _ _).symm.trans H; with_reducible exact H2_) | with_reducible exact H | (rw [hy176]; exact H) | exact H
      have Ny176 := Aside0.mk hy176
      clear hy176
      have H' := Aside0.mk H
      clear H
      try go_wp2
      replace HO_156006 := Aside0.mk (Kd.N_drew HO_156006.out)
      replace BK142 := Aside0.mk (blk_drew BK142.out)
      replace BK155 := Aside0.mk (blk_drew BK155.out)
      replace HB := Aside0.mk (below_drew1 HB.out)
      have p166 : 0 ≤ (x4_1 : Int) := of_decide_eq_true (by first | (with_reducible assumption) | assumption)
      have q166 : x4_1 < (l0.length : Int) := of_decide_eq_true (by first | (with_reducible assumption) | assumption)
      obtain ⟨ad166, A166_6, c166_6, e166, hx166_0, hx166_1, hx166_2, hx166_3, hx166_4, hx166_5, hx166_6, hl166_6, hi166_6⟩ := at_T28 HR0.out x4_1 p166 q166
      have hw166_6 := hx166_6
      have hw166_5 := hx166_5
      have hw166_4 := hx166_4
      have hw166_3 := hx166_3
      have hw166_2 := hx166_2
      have hw166_1 := hx166_1
      have hw166_0 := hx166_0
      cases e166
      replace hx166_0 := hb_ HB hx166_0
      replace hx166_1 := hb_ HB hx166_1
      replace hx166_2 := hb_ HB hx166_2
      replace hx166_3 := hb_ HB hx166_3
      replace hx166_4 := hb_ HB hx166_4
      replace hx166_5 := hb_ HB hx166_5
      replace hx166_6 := hb_ HB hx166_6
      have HR166_6 := Aside0.mk hi166_6
      have HC166_6 := Aside0.mk hl166_6
      clear hi166_6 hl166_6
      replace p166 := eq_true p166
      replace q166 := eq_true q166
      refine start_ (n := 9) (S := fun w' => w'.cell? ⟨gb155, 0, none⟩ = some (.int .i64 x156000_1) ∧ w'.cell? ⟨gb155, 1, none⟩ = some (.int .i64 x156001_1) ∧ w'.cell? ⟨gb155, 2, none⟩ = some (.int .i64 x156002_1) ∧ w'.cell? ⟨gb155, 3, none⟩ = some (.int .i64 x156003_1) ∧ w'.cell? ⟨gb155, 4, none⟩ = some (.string x156004_1) ∧ w'.cell? ⟨gb155, 5, none⟩ = some (.string x156005_1) ∧ w'.cell? ⟨gb155, 6, none⟩ = some (u156006) ∧ w'.cell? (ad166.add ((x4_1).toNat * 7)) = some (.int .i64 ((rd_T28 l0 x4_1).f0)) ∧ w'.cell? ⟨(ad166.add ((x4_1).toNat * 7)).block, (ad166.add ((x4_1).toNat * 7)).off + 1, none⟩ = some (.int .i64 ((rd_T28 l0 x4_1).f1)) ∧ w'.cell? ⟨(ad166.add ((x4_1).toNat * 7)).block, (ad166.add ((x4_1).toNat * 7)).off + 2, none⟩ = some (.int .i64 ((rd_T28 l0 x4_1).f2.f0)) ∧ w'.cell? ⟨(ad166.add ((x4_1).toNat * 7)).block, (ad166.add ((x4_1).toNat * 7)).off + 3, none⟩ = some (.int .i64 ((rd_T28 l0 x4_1).f2.f1)) ∧ w'.cell? ⟨(ad166.add ((x4_1).toNat * 7)).block, (ad166.add ((x4_1).toNat * 7)).off + 4, none⟩ = some (.string ((rd_T28 l0 x4_1).f2.f2)) ∧ w'.cell? ⟨(ad166.add ((x4_1).toNat * 7)).block, (ad166.add ((x4_1).toNat * 7)).off + 5, none⟩ = some (.string ((rd_T28 l0 x4_1).f3)) ∧ w'.cell? ⟨(ad166.add ((x4_1).toNat * 7)).block, (ad166.add ((x4_1).toNat * 7)).off + 6, none⟩ = some (.slice A166_6 ((rd_T28 l0 x4_1).f4).length c166_6)) (ds := [8]) (tf 0 9) (by kernel_rfl) rfl rfl ⟨bc_ BK155 0, bc_ BK155 1, bc_ BK155 2, bc_ BK155 3, bc_ BK155 4, bc_ BK155 5, bc_ BK155 6, (hb_ HB hw166_0), (hb_ HB hw166_1), (hb_ HB hw166_2), (hb_ HB hw166_3), (hb_ HB hw166_4), (hb_ HB hw166_5), (hb_ HB hw166_6)⟩ (fun hHeld => ?_); refine with_tabW spec_AndAll.tab7 spec_AndAll.bits7 (fun HT_ HW_ => ?_)
      generalize wr.drew = w21 at HO_156006 BK142 BK155 HB HR166_6 hx166_0 hx166_1 hx166_2 hx166_3 hx166_4 hx166_5 hx166_6 hHeld ⊢
      refine plx_ 1 #[false, true, false, false, false, false, false, false, false] ?_
      refine plx_ 2 #[false, true, true, false, false, false, false, false, false] ?_
      refine plx_ 3 #[false, true, true, true, false, false, false, false, false] ?_
      refine tlx_ 0 (tf 4 5) ?_
      refine tl_ ?_
      refine one_ (i := 5) (N := some 24) (tf 6 3) rfl rfl (one_of HT_.out (by kernel_rfl)) (by decide) (fun K hK => ?_)
      refine gs_ Try.func32 #[.agg #[.int .i64 ((rd_T28 l0 x4_1).f0), .int .i64 ((rd_T28 l0 x4_1).f1), .int .i64 ((rd_T28 l0 x4_1).f2.f0), .int .i64 ((rd_T28 l0 x4_1).f2.f1), .string ((rd_T28 l0 x4_1).f2.f2), .string ((rd_T28 l0 x4_1).f3), .slice A166_6 ((rd_T28 l0 x4_1).f4).length c166_6]] ?_
      with_reducible refine (spec_l03Copy.calls k1 ((rd_T28 l0 x4_1).f0) ((rd_T28 l0 x4_1).f1) ((rd_T28 l0 x4_1).f2.f0) ((rd_T28 l0 x4_1).f2.f1) ((rd_T28 l0 x4_1).f2.f2) ((rd_T28 l0 x4_1).f3) _ _ ((rd_T28 l0 x4_1).f4) t167 t168 t169 t170 t171 t172 t173 _ ?side1 ?side2 A20.out).mono ?_
      (case side1 => exact ck_ (Kd.C_below HR166_6.out HB.out))
      (case side2 => exact HC166_6.out)
      rintro e w22 ⟨v174, rfl, ho0, hb⟩
      refine ⟨_, rfl, ?_⟩
      have HO175 := Aside0.mk (Kd.N_lower (Kd.N_mono (ok' := fun k_ => (w.heap.size ≤ k_) ∧ some k_ ≠ (u156006 : Value).ownBlock ∧ k_ ≠ gb142 ∧ k_ ≠ gb155) (Kd.S_N (Kd.S_bound ho0)) (fun k_ hk_ => ⟨(Nat.le_trans (below_size bb_) hk_.2.1), (Kd.fresh' (Kd.N_lt (by (with_reducible repeat (first | apply Kd.N_alloc | apply Kd.N_drewN | apply Kd.N_drew)); exact HO_156006.out)) k_ hk_.2.1), (Kd.freshB (g := gb142) (o := .cells #[.int .i64 0, .int .i64 0, .int .i64 0, .int .i64 0, .string (⟨#[]⟩ : ByteArray), .string (⟨#[]⟩ : ByteArray), .slice none 0 0] 28 (0, 0)) (bkx_ BK142.out) k_ hk_.2.1), (Kd.freshB (g := gb155) (o := .cells #[.int .i64 x156000_1, .int .i64 x156001_1, .int .i64 x156002_1, .int .i64 x156003_1, .string x156004_1, .string x156005_1, u156006] 28 (0, 0)) (bkx_ BK155.out) k_ hk_.2.1)⟩)) (below_size bb_))
      replace HO_156006 := Aside0.mk (Kd.N_elder' (by (with_reducible repeat (first | apply Kd.N_alloc | apply Kd.N_drewN | apply Kd.N_drew)); exact HO_156006.out) (Kd.S_base ho0) hb)
      replace BK142 := bkb_ BK142 hb
      replace BK155 := bkb_ BK155 hb
      replace HB := bs_ hb
      (try clear hb)
      (try clear hb2)
      (try clear hk)
      (try clear hi)
      (try clear ho0)
      obtain ⟨Ao23, co23, eo23⟩ := Kd.N_slice HO_156006.out
      (first | subst eo23 | (injection eo23 with f1_ f2_ f3_; have f4_ := f1_.symm; have f5_ := f3_.symm; clear f1_ f2_ f3_; subst f4_; subst f5_))
      obtain ⟨Ao24, co24, eo24⟩ := Kd.N_slice HO175.out
      (first | subst eo24 | (injection eo24 with f1_ f2_ f3_; have f4_ := f1_.symm; have f5_ := f3_.symm; clear f1_ f2_ f3_; subst f4_; subst f5_))
      refine hK.out _ _ ⟨bc_ BK155 0, bc_ BK155 1, bc_ BK155 2, bc_ BK155 3, bc_ BK155 4, bc_ BK155 5, bc_ BK155 6, (have h_ := hb_ HB hw166_0; h_), (have h_ := hb_ HB hw166_1; h_), (have h_ := hb_ HB hw166_2; h_), (have h_ := hb_ HB hw166_3; h_), (have h_ := hb_ HB hw166_4; h_), (have h_ := hb_ HB hw166_5; h_), (have h_ := hb_ HB hw166_6; h_)⟩ (fun hHeld => ?_)
      clear hK K
      refine nm_ ?_
      refine one_ (i := 6) (N := some 25) (tf 7 2) rfl rfl (one_of HT_.out (by kernel_rfl)) (by decide) (fun K hK => ?_)
      refine Kd.N_lit_step k28 _ 28 ?hg (N' := 25) ?hd (xs := ([(⟨x156000_1, x156001_1, (⟨x156002_1, x156003_1, x156004_1⟩ : S25), x156005_1, x156006_1⟩ : S28), (⟨t167, t168, (⟨t169, t170, t171⟩ : S25), t172, t173⟩ : S28)] : List (S28))) (inner := [.int .i64 x156000_1, .int .i64 x156001_1, .int .i64 x156002_1, .int .i64 x156003_1, .string x156004_1, .string x156005_1, .slice Ao23 x156006_1.length co23, .int .i64 t167, .int .i64 t168, .int .i64 t169, .int .i64 t170, .string t171, .string t172, .slice Ao24 t173.length co24]) (ok := (fun k_ => (w.heap.size ≤ k_) ∧ k_ ≠ gb142 ∧ k_ ≠ gb155)) (okp := (fun k_ => (w.heap.size ≤ k_) ∧ k_ ≠ gb142 ∧ k_ ≠ gb155)) ?hr ?hp (fun _ hk => hk) ((show ∀ k_, w22.heap.size ≤ k_ → (fun k_ => (w.heap.size ≤ k_) ∧ k_ ≠ gb142 ∧ k_ ≠ gb155) k_ from fun k_ hk => ⟨(Nat.le_trans (below_size bb_) hk), Kd.freshB (g := gb142) (o := .cells #[.int .i64 0, .int .i64 0, .int .i64 0, .int .i64 0, .string (⟨#[]⟩ : ByteArray), .string (⟨#[]⟩ : ByteArray), .slice none 0 0] 28 (0, 0)) (bkx_ BK142.out) k_ hk, Kd.freshB (g := gb155) (o := .cells #[.int .i64 x156000_1, .int .i64 x156001_1, .int .i64 x156002_1, .int .i64 x156003_1, .string x156004_1, .string x156005_1, .slice Ao23 x156006_1.length co23] 28 (0, 0)) (bkx_ BK155.out) k_ hk⟩) _ (Nat.le_refl _)) (Below.refl _ _) (Nat.le_refl _) (by simp) ?_; (case hd => rfl); (case hg => rfl); (case hr => first | (go_simp; done) | (go_simp; rfl)); (case hp => exact (Reps.c7 (show Kd.FK k28 _ _ (⟨x156000_1, x156001_1, (⟨x156002_1, x156003_1, x156004_1⟩ : S25), x156005_1, x156006_1⟩ : S28) [.int .i64 x156000_1, .int .i64 x156001_1, .int .i64 x156002_1, .int .i64 x156003_1, .string x156004_1, .string x156005_1, .slice Ao23 x156006_1.length co23] from (k28_mkF _ _ (⟨x156000_1, x156001_1, (⟨x156002_1, x156003_1, x156004_1⟩ : S25), x156005_1, x156006_1⟩ : S28) (Kd.N_reads' (Kd.N_mono (ok' := (fun k_ => (w.heap.size ≤ k_) ∧ k_ ≠ gb142 ∧ k_ ≠ gb155)) (HO_156006.out) (fun k_ hk => ⟨hk.1.1, ⟨hk.1.2.1, hk.1.2.2⟩⟩))).2.1 (Kd.N_F (Kd.N_mono (ok' := (fun k_ => (w.heap.size ≤ k_) ∧ k_ ≠ gb142 ∧ k_ ≠ gb155)) (HO_156006.out) (fun k_ hk => ⟨hk.1.1, ⟨hk.1.2.1, hk.1.2.2⟩⟩))))) (Reps.c7 (show Kd.FK k28 _ _ (⟨t167, t168, (⟨t169, t170, t171⟩ : S25), t172, t173⟩ : S28) [.int .i64 t167, .int .i64 t168, .int .i64 t169, .int .i64 t170, .string t171, .string t172, .slice Ao24 t173.length co24] from (k28_mkF _ _ (⟨t167, t168, (⟨t169, t170, t171⟩ : S25), t172, t173⟩ : S28) (Kd.N_reads' (Kd.N_mono (ok' := (fun k_ => (w.heap.size ≤ k_) ∧ k_ ≠ gb142 ∧ k_ ≠ gb155)) (HO175.out) (fun k_ hk => ⟨hk.1, ⟨hk.2.2.1, hk.2.2.2⟩⟩))).2.1 (Kd.N_F (Kd.N_mono (ok' := (fun k_ => (w.heap.size ≤ k_) ∧ k_ ≠ gb142 ∧ k_ ≠ gb155)) (HO175.out) (fun k_ hk => ⟨hk.1, ⟨hk.2.2.1, hk.2.2.2⟩⟩))))) (Reps.none _ _))))
      intro v177 w25 ho26 hb hg_ hnew_
      clear hg_ hnew_
      (first | rw [← Ny176.out] at ho26 | (simp only [Int.reduceToNat] at ho26; rw [← Ny176.out] at ho26))
      have HO178 := Aside0.mk (Kd.N_lower ho26 (below_size bb_))
      replace BK142 := bkb_ BK142 hb
      replace BK155 := bkb_ BK155 hb
      replace HB := bs_ hb
      clear HO175 HO_156006
      clear hb ho26
      obtain ⟨Ao27, co27, eo27⟩ := Kd.N_slice HO178.out
      (first | subst eo27 | (injection eo27 with f1_ f2_ f3_; have f4_ := f1_.symm; have f5_ := f3_.symm; clear f1_ f2_ f3_; subst f4_; subst f5_))
      refine hK.out _ _ ⟨bc_ BK155 0, bc_ BK155 1, bc_ BK155 2, bc_ BK155 3, bc_ BK155 4, bc_ BK155 5, bc_ BK155 6, (have h_ := hb_ HB hw166_0; h_), (have h_ := hb_ HB hw166_1; h_), (have h_ := hb_ HB hw166_2; h_), (have h_ := hb_ HB hw166_3; h_), (have h_ := hb_ HB hw166_4; h_), (have h_ := hb_ HB hw166_5; h_), (have h_ := hb_ HB hw166_6; h_)⟩ (fun hHeld => ?_)
      clear hK K
      refine nm_ ?_
      refine plx_ 7 (tf 8 1) ?_
      refine last_ (i := 8) (N := none) (tf 9 0) rfl rfl (one_of HT_.out (by kernel_rfl)) (by decide) (fun K hK => ?_)
      have hs28 : w25.cell? ⟨gb155, 0, none⟩ = some (.int .i64 x156000_1) := bc_ BK155 0
      have hfs28 := blk_frozen BK155.out 0
      have hns28_0 := NB142_155.out
      have hms28_0 := NB155_142.out
      have hs29 : w25.cell? ⟨gb155, 1, none⟩ = some (.int .i64 x156001_1) := bc_ BK155 1
      have hfs29 := blk_frozen BK155.out 1
      have hns29_0 := NB142_155.out
      have hms29_0 := NB155_142.out
      have hs30 : w25.cell? ⟨gb155, 2, none⟩ = some (.int .i64 x156002_1) := bc_ BK155 2
      have hfs30 := blk_frozen BK155.out 2
      have hns30_0 := NB142_155.out
      have hms30_0 := NB155_142.out
      have hs31 : w25.cell? ⟨gb155, 3, none⟩ = some (.int .i64 x156003_1) := bc_ BK155 3
      have hfs31 := blk_frozen BK155.out 3
      have hns31_0 := NB142_155.out
      have hms31_0 := NB155_142.out
      have hs32 : w25.cell? ⟨gb155, 4, none⟩ = some (.string x156004_1) := bc_ BK155 4
      have hfs32 := blk_frozen BK155.out 4
      have hns32_0 := NB142_155.out
      have hms32_0 := NB155_142.out
      have hs33 : w25.cell? ⟨gb155, 5, none⟩ = some (.string x156005_1) := bc_ BK155 5
      have hfs33 := blk_frozen BK155.out 5
      have hns33_0 := NB142_155.out
      have hms33_0 := NB155_142.out
      have hs34 : w25.cell? ⟨gb155, 6, none⟩ = some (.slice Ao23 x156006_1.length co23) := bc_ BK155 6
      have hfs34 := blk_frozen BK155.out 6
      have hns34_0 := NB142_155.out
      have hms34_0 := NB155_142.out
      refine skip_ (w1 := ?_) (by rfl) rfl ?_ ?_
      rotate_left
      ·go_simp
       rfl
      refine hK.out _ _ ?_
      clear hK K
      refine done_ (done_of HT_.out (by kernel_rfl)) ?_
      try go_wp2
      go_roundg k1
      case measure => have := HK1.out; omega
      case rel => exact ⟨(wrap64 (x4_1 + 1)), (2), (0), (0), (0), ((⟨#[]⟩ : ByteArray)), ((⟨#[97, 110, 100]⟩ : ByteArray)), (y176), (.slice Ao27 y176.length co27), rs_, H', ⟨by have := HK1.out; omega⟩, ⟨by (with_reducible repeat (first | apply Kd.N_alloc | apply Kd.N_drewN | apply Kd.N_drew)); exact Kd.N_mono (Kd.N_far (p := ⟨gb155, 6, none⟩) (Kd.N_far (p := ⟨gb155, 5, none⟩) (Kd.N_far (p := ⟨gb155, 4, none⟩) (Kd.N_far (p := ⟨gb155, 3, none⟩) (Kd.N_far (p := ⟨gb155, 2, none⟩) (Kd.N_far (p := ⟨gb155, 1, none⟩) (Kd.N_far (p := ⟨gb155, 0, none⟩) (Kd.N_mono HO178.out (fun k_ hk => (⟨hk, hk.2.2⟩ : _ ∧ k_ ≠ gb155))) (fun _ hk => hk.2) (.int .i64 2)) (fun _ hk => hk.2) (.int .i64 0)) (fun _ hk => hk.2) (.int .i64 0)) (fun _ hk => hk.2) (.int .i64 0)) (fun _ hk => hk.2) (.string (⟨#[]⟩ : ByteArray))) (fun _ hk => hk.2) (.string (⟨#[97, 110, 100]⟩ : ByteArray))) (fun _ hk => hk.2) (.slice Ao27 y176.length co27)) (fun _ hk => ⟨hk.1.1, ⟨hk.1.2.1, hk.1.2.2⟩⟩)⟩, ⟨(bf7_ NB142_155 (bkx_ BK142.out))⟩, ⟨(bp7_ (bkx_ BK155.out))⟩, ⟨bb_⟩⟩
     ·rw [if_neg c19] at H
      exact absurd H (by simp)
   ·rw [if_neg c11] at H
    have c11b0 : decide (x4_1 < (l0.length : Int)) = false := decide_eq_false c11
    clear c11
    replace H := Option.bind_eq_some_iff.mp H
    obtain ⟨t179, A350, H⟩ := H
    replace H : (if t179 = true then (some (x156000_1, x156001_1, x156002_1, x156003_1, x156004_1, x156005_1, x156006_1)) else ((spec_l03Const.f 0 0 (⟨#[]⟩ : ByteArray)).bind fun bt180 => (some (bt180.1, bt180.2.1, bt180.2.2.1, bt180.2.2.2.1, bt180.2.2.2.2.1, bt180.2.2.2.2.2.1, bt180.2.2.2.2.2.2)))) = some (r1, r2, r3, r4, r5, r6, r7) := H
    have A35 := Aside0.mk A350
    clear A350
    by_cases c36 : t179 = true
    ·subst c36
     have H1 : (some (x156000_1, x156001_1, x156002_1, x156003_1, x156004_1, x156005_1, x156006_1)) = some (r1, r2, r3, r4, r5, r6, r7) := by rw [if_pos rfl] at H; exact H
     clear H
     have H := H1
     clear H1
     simp only [Option.some.injEq, Prod.mk.injEq] at H
     obtain ⟨rfl, rfl, rfl, rfl, rfl, rfl, rfl⟩ := H
     have hnb37 := NB155_142.out
     have hnc37 := NB142_155.out
     obtain ⟨hcz38_0, hcz38_1, hcz38_2, hcz38_3, hcz38_4, hcz38_5, hcz38_6, hfz38_0, hfz38_1, hfz38_2, hfz38_3, hfz38_4, hfz38_5, hfz38_6⟩ := b7_ BK155
     obtain ⟨Ao39, co39, eo39⟩ := Kd.N_slice HO_156006.out
     subst eo39
     go_wp2_with (first | ((with_reducible refine gate_callee (f := 33) rfl ?_); refine gsL_ (some 28) Try.func33 #[.agg #[.int .i64 x156000_1, .int .i64 x156001_1, .int .i64 x156002_1, .int .i64 x156003_1, .string x156004_1, .string x156005_1, .slice Ao39 x156006_1.length co39]] ?_; (with_reducible refine (spec_ExpOk.calls k1 x156000_1 x156001_1 x156002_1 x156003_1 x156004_1 x156005_1 _ _ x156006_1 true _ ?side1 ?side2 A35.out).mono ?_); (case side1 => exact ck_ (Kd.N_reads' HO_156006.out).2.2); (case side2 => exact (Kd.N_reads' HO_156006.out).2.1); rintro e w40 ⟨rfl, hb⟩; refine ⟨_, rfl, ?_⟩; replace HO_156006 := Aside0.mk (Kd.N_below (by (with_reducible repeat (first | apply Kd.N_alloc | apply Kd.N_drewN | apply Kd.N_drew)); exact HO_156006.out) hb); replace BK142 := bkb_ BK142 hb; replace BK155 := bkb_ BK155 hb; replace HB := bs_ hb; (try clear hb); (try clear hb2); (try clear hk); (try clear hi); obtain ⟨hcz41_0, hcz41_1, hcz41_2, hcz41_3, hcz41_4, hcz41_5, hcz41_6, hfz41_0, hfz41_1, hfz41_2, hfz41_3, hfz41_4, hfz41_5, hfz41_6⟩ := b7_ BK155; obtain ⟨hcz42_0, hcz42_1, hcz42_2, hcz42_3, hcz42_4, hcz42_5, hcz42_6, hfz42_0, hfz42_1, hfz42_2, hfz42_3, hfz42_4, hfz42_5, hfz42_6⟩ := b7_ BK142))
     refine bodyPost_ret (results_cell_row rfl _ _ gb142 28 #[.int .i64 x156000_1, .int .i64 x156001_1, .int .i64 x156002_1, .int .i64 x156003_1, .string x156004_1, .string x156005_1, .slice Ao39 x156006_1.length co39] (0, 0) _ rfl (bp7_ (bkx_ BK142.out)) Try.underlying28 rfl (by kernel_rfl)) rfl ?_
     exact ⟨_, by first | rfl | (simp [errW_none, errW_some] <;> rfl) | (simp [*, errW_none, errW_some] <;> rfl), by (with_reducible repeat (first | apply Kd.N_alloc | apply Kd.N_drewN | apply Kd.N_drew)); exact Kd.N_mono (Kd.N_far (p := ⟨gb142, 6, none⟩) (Kd.N_far (p := ⟨gb142, 5, none⟩) (Kd.N_far (p := ⟨gb142, 4, none⟩) (Kd.N_far (p := ⟨gb142, 3, none⟩) (Kd.N_far (p := ⟨gb142, 2, none⟩) (Kd.N_far (p := ⟨gb142, 1, none⟩) (Kd.N_far (p := ⟨gb142, 0, none⟩) (Kd.N_mono HO_156006.out (fun k_ hk => (⟨hk, hk.2.1⟩ : _ ∧ k_ ≠ gb142))) (fun _ hk => hk.2) (.int .i64 x156000_1)) (fun _ hk => hk.2) (.int .i64 x156001_1)) (fun _ hk => hk.2) (.int .i64 x156002_1)) (fun _ hk => hk.2) (.int .i64 x156003_1)) (fun _ hk => hk.2) (.string x156004_1)) (fun _ hk => hk.2) (.string x156005_1)) (fun _ hk => hk.2) (.slice Ao39 x156006_1.length co39)) (fun _ hk => hk.1.1), by repeat (first | (with_reducible first | exact HB.out | apply below_alloc | apply pw_below_drewN | apply below_drew1 | refine below_set ?_ GE142.out | refine below_set ?_ GE155.out) | exact HB.out)⟩
    ·replace c36 := Bool.eq_false_iff.mpr c36
     subst c36
     have H1 : ((spec_l03Const.f 0 0 (⟨#[]⟩ : ByteArray)).bind fun bt180 => (some (bt180.1, bt180.2.1, bt180.2.2.1, bt180.2.2.2.1, bt180.2.2.2.2.1, bt180.2.2.2.2.2.1, bt180.2.2.2.2.2.2))) = some (r1, r2, r3, r4, r5, r6, r7) := by rw [if_neg (show ¬ (false = true) by decide)] at H; exact H
     clear H
     have H := H1
     clear H1
     replace H := Option.bind_eq_some_iff.mp H
     obtain ⟨⟨t180, t181, t182, t183, t184, t185, t186⟩, A430, H⟩ := H
     replace H : (some (t180, t181, t182, t183, t184, t185, t186)) = some (r1, r2, r3, r4, r5, r6, r7) := H
     have A43 := Aside0.mk A430
     clear A430
     simp only [Option.some.injEq, Prod.mk.injEq] at H
     obtain ⟨rfl, rfl, rfl, rfl, rfl, rfl, rfl⟩ := H
     have hnb44 := NB155_142.out
     have hnc44 := NB142_155.out
     obtain ⟨hcz45_0, hcz45_1, hcz45_2, hcz45_3, hcz45_4, hcz45_5, hcz45_6, hfz45_0, hfz45_1, hfz45_2, hfz45_3, hfz45_4, hfz45_5, hfz45_6⟩ := b7_ BK155
     obtain ⟨Ao46, co46, eo46⟩ := Kd.N_slice HO_156006.out
     subst eo46
     go_wp2_with (first | ((with_reducible refine gate_callee (f := 33) rfl ?_); refine gsL_ (some 28) Try.func33 #[.agg #[.int .i64 x156000_1, .int .i64 x156001_1, .int .i64 x156002_1, .int .i64 x156003_1, .string x156004_1, .string x156005_1, .slice Ao46 x156006_1.length co46]] ?_; (with_reducible refine (spec_ExpOk.calls k1 x156000_1 x156001_1 x156002_1 x156003_1 x156004_1 x156005_1 _ _ x156006_1 false _ ?side1 ?side2 A35.out).mono ?_); (case side1 => exact ck_ (Kd.N_reads' HO_156006.out).2.2); (case side2 => exact (Kd.N_reads' HO_156006.out).2.1); rintro e w47 ⟨rfl, hb⟩; refine ⟨_, rfl, ?_⟩; replace HO_156006 := Aside0.mk (Kd.N_below (by (with_reducible repeat (first | apply Kd.N_alloc | apply Kd.N_drewN | apply Kd.N_drew)); exact HO_156006.out) hb); replace BK142 := bkb_ BK142 hb; replace BK155 := bkb_ BK155 hb; replace HB := bs_ hb; (try clear hb); (try clear hb2); (try clear hk); (try clear hi)) | ((with_reducible refine gate_callee (f := 30) rfl ?_); refine goesL_ (some 31) rfl rfl Try.func30 (by kernel_rfl) rfl #[.agg #[.int .i64 0, .int .i64 0, .string (⟨#[]⟩ : ByteArray)]] rfl (by (try simp only [List.map_toArray, List.map_cons, List.map_nil]); first | done | rfl | (simp only [List.length_drop, List.length_take]; rfl)) ?_; (with_reducible refine (spec_l03Const.calls 0 0 (⟨#[]⟩ : ByteArray) t180 t181 t182 t183 t184 t185 t186 _ A43.out).mono ?_); rintro e w48 ⟨v187, rfl, ho0, hb⟩; refine ⟨_, rfl, ?_⟩; have HO188 := Aside0.mk (Kd.N_lower (Kd.N_mono (ok' := fun k_ => (w.heap.size ≤ k_) ∧ some k_ ≠ (.slice Ao46 x156006_1.length co46 : Value).ownBlock ∧ k_ ≠ gb142 ∧ k_ ≠ gb155) (Kd.S_N (Kd.S_bound ho0)) (fun k_ hk_ => ⟨(Nat.le_trans (below_size bb_) hk_.2.1), (Kd.fresh' (Kd.N_lt (by (with_reducible repeat (first | apply Kd.N_alloc | apply Kd.N_drewN | apply Kd.N_drew)); exact HO_156006.out)) k_ hk_.2.1), (Kd.freshB (g := gb142) (o := .cells #[.int .i64 0, .int .i64 0, .int .i64 0, .int .i64 0, .string (⟨#[]⟩ : ByteArray), .string (⟨#[]⟩ : ByteArray), .slice none 0 0] 28 (0, 0)) (bkx_ BK142.out) k_ hk_.2.1), (Kd.freshB (g := gb155) (o := .cells #[.int .i64 x156000_1, .int .i64 x156001_1, .int .i64 x156002_1, .int .i64 x156003_1, .string x156004_1, .string x156005_1, .slice Ao46 x156006_1.length co46] 28 (0, 0)) (bkx_ BK155.out) k_ hk_.2.1)⟩)) (below_size bb_)); replace HO_156006 := Aside0.mk (Kd.N_elder' (by (with_reducible repeat (first | apply Kd.N_alloc | apply Kd.N_drewN | apply Kd.N_drew)); exact HO_156006.out) (Kd.S_base ho0) hb); replace BK142 := bkb_ BK142 hb; replace BK155 := bkb_ BK155 hb; replace HB := bs_ hb; (try clear hb); (try clear hb2); (try clear hk); (try clear hi); (try clear ho0); obtain ⟨hcz49_0, hcz49_1, hcz49_2, hcz49_3, hcz49_4, hcz49_5, hcz49_6, hfz49_0, hfz49_1, hfz49_2, hfz49_3, hfz49_4, hfz49_5, hfz49_6⟩ := b7_ BK142; obtain ⟨Ao50, co50, eo50⟩ := Kd.N_slice HO188.out; subst eo50))
     refine bodyPost_ret (results_cell_row rfl _ _ gb142 28 #[.int .i64 t180, .int .i64 t181, .int .i64 t182, .int .i64 t183, .string t184, .string t185, .slice Ao50 t186.length co50] (0, 0) _ rfl (bp7_ (bkx_ BK142.out)) Try.underlying28 rfl (by kernel_rfl)) rfl ?_
     exact ⟨_, by first | rfl | (simp [errW_none, errW_some] <;> rfl) | (simp [*, errW_none, errW_some] <;> rfl), by (with_reducible repeat (first | apply Kd.N_alloc | apply Kd.N_drewN | apply Kd.N_drew)); exact Kd.N_mono (Kd.N_far (p := ⟨gb142, 6, none⟩) (Kd.N_far (p := ⟨gb142, 5, none⟩) (Kd.N_far (p := ⟨gb142, 4, none⟩) (Kd.N_far (p := ⟨gb142, 3, none⟩) (Kd.N_far (p := ⟨gb142, 2, none⟩) (Kd.N_far (p := ⟨gb142, 1, none⟩) (Kd.N_far (p := ⟨gb142, 0, none⟩) (Kd.N_mono HO188.out (fun k_ hk => (⟨hk, hk.2.2.1⟩ : _ ∧ k_ ≠ gb142))) (fun _ hk => hk.2) (.int .i64 t180)) (fun _ hk => hk.2) (.int .i64 t181)) (fun _ hk => hk.2) (.int .i64 t182)) (fun _ hk => hk.2) (.int .i64 t183)) (fun _ hk => hk.2) (.string t184)) (fun _ hk => hk.2) (.string t185)) (fun _ hk => hk.2) (.slice Ao50 t186.length co50)) (fun _ hk => hk.1.1), by repeat (first | (with_reducible first | exact HB.out | apply below_alloc | apply pw_below_drewN | apply below_drew1 | refine below_set ?_ GE142.out | refine below_set ?_ GE155.out) | exact HB.out)⟩

/-! ### laws_toValue: function 71 -/
def laws_toValue.f (a0_0 : Int) (a0_1 : Int) (a0_2 : ByteArray) : Option (Int × Int × ByteArray) := some (a0_0, a0_1, a0_2)
set_option maxHeartbeats 8000000 in
set_option maxRecDepth 100000 in
theorem laws_toValue.calls (a0_0 : Int) (a0_1 : Int) (a0_2 : ByteArray) (r1 : Int) (r2 : Int) (r3 : ByteArray) (w : World) (h : laws_toValue.f a0_0 a0_1 a0_2 = some (r1, r2, r3)) :
  Calls Try.prog 71 #[.agg #[.int .i64 a0_0, .int .i64 a0_1, .string a0_2]] w fun e w' => e = .returned (.agg #[.int .i64 r1, .int .i64 r2, .string r3]) ∧ Below w.heap.size w w' := by
 have hu56 := Try.underlying56
 have hu25 := Try.underlying25
 have HB := Aside0.mk (Below.refl w.heap.size w)
 have H : (some (a0_0, a0_1, a0_2)) = some (r1, r2, r3) := h
 clear h
 simp only [Option.some.injEq, Prod.mk.injEq] at H
 obtain ⟨rfl, rfl, rfl⟩ := H
 go_enter Try.func71, Try.ntmps71
 go_wp2_with (first | ((with_reducible refine gate_dst (N := 1) rfl ?_); refine bx_ 1 #[.int .i64 a0_0, .int .i64 a0_1, .string a0_2] 56 ?_; intro gb189 hg w2 hbox hb; have BK189 := Aside0.mk (hbox); have GW189 := gw_ hg; have GE189 := gw_ hg; replace HB := bs_ hb; clear hb hbox hg) | ((with_reducible refine gate_dst (N := 2) rfl ?_); refine bx_ 2 #[.int .i64 0, .int .i64 0, .string (⟨#[]⟩ : ByteArray)] 25 ?_; intro gb190 hg w3 hbox hb; have BK190 := Aside0.mk (hbox); have GW190 := gw_ hg; have GE190 := gw_ hg; have NB189_190 := nl_ hg BK189; have NB190_189 := ng_ hg BK189; replace BK189 := bkb_ BK189 hb; replace HB := bs_ hb; clear hb hbox hg) | ((with_reducible refine gate_dst (N := 3) rfl ?_); refine bx_ 3 #[.int .i64 0, .int .i64 0, .string (⟨#[]⟩ : ByteArray)] 25 ?_; intro gb191 hg w4 hbox hb; have BK191 := Aside0.mk (hbox); have GW191 := gw_ hg; have GE191 := gw_ hg; have NB189_191 := nl_ hg BK189; have NB191_189 := ng_ hg BK189; have NB190_191 := nl_ hg BK190; have NB191_190 := ng_ hg BK190; replace BK189 := bkb_ BK189 hb; replace BK190 := bkb_ BK190 hb; replace HB := bs_ hb; clear hb hbox hg; have hnb5 := NB189_190.out; have hnc5 := NB190_189.out; have hnb6 := NB189_191.out; have hnc6 := NB191_189.out; obtain ⟨hcz7_0, hcz7_1, hcz7_2, hfz7_0, hfz7_1, hfz7_2⟩ := b3_ BK189; have hnb8 := NB191_190.out; have hnc8 := NB190_191.out; obtain ⟨hcz9_0, hcz9_1, hcz9_2, hfz9_0, hfz9_1, hfz9_2⟩ := b3_ BK191; obtain ⟨hcz10_0, hcz10_1, hcz10_2, hfz10_0, hfz10_1, hfz10_2⟩ := b3_ BK190))
 refine bodyPost_ret (results_cell_row rfl _ _ gb190 25 #[.int .i64 a0_0, .int .i64 a0_1, .string a0_2] (0, 0) _ rfl (by (with_reducible repeat (first | refine blk_drewN ?_ _ | refine blk_drew ?_ | refine blk_alloc ?_ _)); refine blk_put (cs := #[.int .i64 a0_0, .int .i64 a0_1, .string (⟨#[]⟩ : ByteArray)]) ?_ 2 _ rfl; (with_reducible repeat (first | refine blk_drewN ?_ _ | refine blk_drew ?_ | refine blk_alloc ?_ _)); refine blk_put (cs := #[.int .i64 a0_0, .int .i64 0, .string (⟨#[]⟩ : ByteArray)]) ?_ 1 _ rfl; (with_reducible repeat (first | refine blk_drewN ?_ _ | refine blk_drew ?_ | refine blk_alloc ?_ _)); refine blk_put (cs := #[.int .i64 0, .int .i64 0, .string (⟨#[]⟩ : ByteArray)]) ?_ 0 _ rfl; (with_reducible repeat (first | refine blk_drewN ?_ _ | refine blk_drew ?_ | refine blk_alloc ?_ _)); refine blk_far ?_ NB190_191.out _; (with_reducible repeat (first | refine blk_drewN ?_ _ | refine blk_drew ?_ | refine blk_alloc ?_ _)); refine blk_far ?_ NB190_191.out _; (with_reducible repeat (first | refine blk_drewN ?_ _ | refine blk_drew ?_ | refine blk_alloc ?_ _)); refine blk_far ?_ NB190_191.out _; (with_reducible repeat (first | refine blk_drewN ?_ _ | refine blk_drew ?_ | refine blk_alloc ?_ _)); exact BK190.out) Try.underlying25 rfl (by kernel_rfl)) rfl ?_
 exact ⟨er_, bb_⟩

/-! ### laws_toExp: function 34 -/
def laws_toExp.f (E_ : (List (S58)) → Option ((List (S28)))) (a0_0 : Int) (a0_1 : Int) (a0_2 : Int) (a0_3 : Int) (a0_4 : ByteArray) (a0_5 : ByteArray) (l0_6 : List (S58)) : Option (Int × Int × Int × Int × ByteArray × ByteArray × (List (S28))) := (laws_toValue.f a0_2 a0_3 a0_4).bind fun bt195 => ((E_ l0_6).bind fun t198 => (some (a0_0, a0_1, bt195.1, bt195.2.1, bt195.2.2, a0_5, t198)))
set_option maxHeartbeats 8000000 in
set_option maxRecDepth 100000 in
theorem laws_toExp.calls (E_ : (List (S58)) → Option ((List (S28)))) (hE_ : ∀ (A0 : Option Addr) (c0 : Nat) (l0 : List (S58)) (r : List (S28)) (w : World) (hr0 : Kd.C k58 w A0 l0.length l0) (hc0 : l0.length ≤ c0) (h : E_ l0 = some r), Calls Try.prog 8 #[.slice A0 l0.length c0] w fun e w' => ∃ v0_ : Value, e = .returned (v0_) ∧ Kd.S k28 28 w' w.heap.size (fun _ => True) v0_ r ∧ Below w.heap.size w w') (a0_0 : Int) (a0_1 : Int) (a0_2 : Int) (a0_3 : Int) (a0_4 : ByteArray) (a0_5 : ByteArray) (A0_6 : Option Addr) (c0_6 : Nat) (l0_6 : List (S58)) (r1 : Int) (r2 : Int) (r3 : Int) (r4 : Int) (r5 : ByteArray) (r6 : ByteArray) (r7 : List (S28)) (w : World) (hr0_6 : Kd.C k58 w A0_6 l0_6.length l0_6) (hc0_6 : l0_6.length ≤ c0_6) (h : laws_toExp.f E_ a0_0 a0_1 a0_2 a0_3 a0_4 a0_5 l0_6 = some (r1, r2, r3, r4, r5, r6, r7)) :
  Calls Try.prog 34 #[.agg #[.int .i64 a0_0, .int .i64 a0_1, .int .i64 a0_2, .int .i64 a0_3, .string a0_4, .string a0_5, .slice A0_6 l0_6.length c0_6]] w fun e w' => ∃ v6_ : Value, e = .returned (.agg #[.int .i64 r1, .int .i64 r2, .int .i64 r3, .int .i64 r4, .string r5, .string r6, v6_]) ∧ Kd.S k28 28 w' w.heap.size (fun _ => True) v6_ r7 ∧ Below w.heap.size w w' := by
 have hu58 := Try.underlying58
 have hu28 := Try.underlying28
 have hu56 := Try.underlying56
 have hu25 := Try.underlying25
 have HR0_6 := Aside0.mk hr0_6
 have HC0_6 := Aside0.mk hc0_6
 clear hr0_6 hc0_6
 have HB := Aside0.mk (Below.refl w.heap.size w)
 have H : ((laws_toValue.f a0_2 a0_3 a0_4).bind fun bt195 => ((E_ l0_6).bind fun t198 => (some (a0_0, a0_1, bt195.1, bt195.2.1, bt195.2.2, a0_5, t198)))) = some (r1, r2, r3, r4, r5, r6, r7) := h
 clear h
 replace H := Option.bind_eq_some_iff.mp H
 obtain ⟨⟨t195, t196, t197⟩, A20, H⟩ := H
 replace H : ((E_ l0_6).bind fun t198 => (some (a0_0, a0_1, t195, t196, t197, a0_5, t198))) = some (r1, r2, r3, r4, r5, r6, r7) := H
 have A2 := Aside0.mk A20
 clear A20
 replace H := Option.bind_eq_some_iff.mp H
 obtain ⟨t198, A30, H⟩ := H
 replace H : (some (a0_0, a0_1, t195, t196, t197, a0_5, t198)) = some (r1, r2, r3, r4, r5, r6, r7) := H
 have A3 := Aside0.mk A30
 clear A30
 simp only [Option.some.injEq, Prod.mk.injEq] at H
 obtain ⟨rfl, rfl, rfl, rfl, rfl, rfl, rfl⟩ := H
 go_enter Try.func34, Try.ntmps34
 go_wp2_with (first | ((with_reducible refine gate_dst (N := 1) rfl ?_); refine bx_ 1 #[.int .i64 a0_0, .int .i64 a0_1, .int .i64 a0_2, .int .i64 a0_3, .string a0_4, .string a0_5, .slice A0_6 l0_6.length c0_6] 58 ?_; intro gb192 hg w4 hbox hb; have BK192 := Aside0.mk (hbox); have GW192 := gw_ hg; have GE192 := gw_ hg; replace HB := bs_ hb; clear hb hbox hg) | ((with_reducible refine gate_dst (N := 2) rfl ?_); refine bx_ 2 #[.int .i64 0, .int .i64 0, .int .i64 0, .int .i64 0, .string (⟨#[]⟩ : ByteArray), .string (⟨#[]⟩ : ByteArray), .slice none 0 0] 28 ?_; intro gb193 hg w5 hbox hb; have BK193 := Aside0.mk (hbox); have GW193 := gw_ hg; have GE193 := gw_ hg; have NB192_193 := nl_ hg BK192; have NB193_192 := ng_ hg BK192; replace BK192 := bkb_ BK192 hb; replace HB := bs_ hb; clear hb hbox hg) | ((with_reducible refine gate_dst (N := 3) rfl ?_); refine bx_ 3 #[.int .i64 0, .int .i64 0, .int .i64 0, .int .i64 0, .string (⟨#[]⟩ : ByteArray), .string (⟨#[]⟩ : ByteArray), .slice none 0 0] 28 ?_; intro gb194 hg w6 hbox hb; have BK194 := Aside0.mk (hbox); have GW194 := gw_ hg; have GE194 := gw_ hg; have NB192_194 := nl_ hg BK192; have NB194_192 := ng_ hg BK192; have NB193_194 := nl_ hg BK193; have NB194_193 := ng_ hg BK193; replace BK192 := bkb_ BK192 hb; replace BK193 := bkb_ BK193 hb; replace HB := bs_ hb; clear hb hbox hg; have hnb7 := NB192_193.out; have hnc7 := NB193_192.out; have hnb8 := NB192_194.out; have hnc8 := NB194_192.out; obtain ⟨hcz9_0, hcz9_1, hcz9_2, hcz9_3, hcz9_4, hcz9_5, hcz9_6, hfz9_0, hfz9_1, hfz9_2, hfz9_3, hfz9_4, hfz9_5, hfz9_6⟩ := b7_ BK192; have hnb10 := NB194_193.out; have hnc10 := NB193_194.out; obtain ⟨hcz11_0, hcz11_1, hcz11_2, hcz11_3, hcz11_4, hcz11_5, hcz11_6, hfz11_0, hfz11_1, hfz11_2, hfz11_3, hfz11_4, hfz11_5, hfz11_6⟩ := b7_ BK194) | ((with_reducible refine gate_callee (f := 71) rfl ?_); refine gsL_ (some 12) Try.func71 #[.agg #[.int .i64 a0_2, .int .i64 a0_3, .string a0_4]] ?_; (with_reducible refine (laws_toValue.calls a0_2 a0_3 a0_4 t195 t196 t197 _ A2.out).mono ?_); rintro e w12 ⟨rfl, hb⟩; refine ⟨_, rfl, ?_⟩; replace BK192 := Aside0.mk (blk_below (g := gb192) (o := .cells #[.int .i64 a0_0, .int .i64 a0_1, .int .i64 a0_2, .int .i64 a0_3, .string a0_4, .string a0_5, .slice A0_6 l0_6.length c0_6] 58 (0, 0)) (bf2_ NB192_194 (bkx_ BK192.out)) hb); replace BK193 := Aside0.mk (blk_below (g := gb193) (o := .cells #[.int .i64 0, .int .i64 0, .int .i64 0, .int .i64 0, .string (⟨#[]⟩ : ByteArray), .string (⟨#[]⟩ : ByteArray), .slice none 0 0] 28 (0, 0)) (bf2_ NB193_194 (bkx_ BK193.out)) hb); replace BK194 := Aside0.mk (blk_below (g := gb194) (o := .cells #[.int .i64 a0_0, .int .i64 a0_1, .int .i64 0, .int .i64 0, .string (⟨#[]⟩ : ByteArray), .string (⟨#[]⟩ : ByteArray), .slice none 0 0] 28 (0, 0)) (by (with_reducible repeat (first | refine blk_drewN ?_ _ | refine blk_drew ?_ | refine blk_alloc ?_ _)); refine blk_put (cs := #[.int .i64 a0_0, .int .i64 0, .int .i64 0, .int .i64 0, .string (⟨#[]⟩ : ByteArray), .string (⟨#[]⟩ : ByteArray), .slice none 0 0]) ?_ 1 _ rfl; (with_reducible repeat (first | refine blk_drewN ?_ _ | refine blk_drew ?_ | refine blk_alloc ?_ _)); refine blk_put (cs := #[.int .i64 0, .int .i64 0, .int .i64 0, .int .i64 0, .string (⟨#[]⟩ : ByteArray), .string (⟨#[]⟩ : ByteArray), .slice none 0 0]) ?_ 0 _ rfl; (with_reducible repeat (first | refine blk_drewN ?_ _ | refine blk_drew ?_ | refine blk_alloc ?_ _)); exact BK194.out) hb); replace HB := bs_ hb; (try clear hb); (try clear hb2); (try clear hk); (try clear hi); obtain ⟨hcz13_0, hcz13_1, hcz13_2, hcz13_3, hcz13_4, hcz13_5, hcz13_6, hfz13_0, hfz13_1, hfz13_2, hfz13_3, hfz13_4, hfz13_5, hfz13_6⟩ := b7_ BK194; obtain ⟨hcz14_0, hcz14_1, hcz14_2, hcz14_3, hcz14_4, hcz14_5, hcz14_6, hfz14_0, hfz14_1, hfz14_2, hfz14_3, hfz14_4, hfz14_5, hfz14_6⟩ := b7_ BK192) | ((with_reducible refine gate_callee (f := 8) rfl ?_); refine gsL_ (some 19) Try.func8 #[.slice A0_6 l0_6.length c0_6] ?_; (with_reducible refine (hE_ _ _ l0_6 t198 _ ?side1 ?side2 A3.out).mono ?_); (case side1 => exact Kd.C_below HR0_6.out bb_); (case side2 => exact HC0_6.out); rintro e w15 ⟨v199, rfl, ho0, hb⟩; refine ⟨_, rfl, ?_⟩; have HO200 := Aside0.mk (Kd.S_lower (Kd.S_newB (Kd.S_newB ho0 (g := gb193) (o := .cells #[.int .i64 0, .int .i64 0, .int .i64 0, .int .i64 0, .string (⟨#[]⟩ : ByteArray), .string (⟨#[]⟩ : ByteArray), .slice none 0 0] 28 (0, 0)) (bf4_ NB193_194 (bkx_ BK193.out))) (g := gb194) (o := .cells #[.int .i64 a0_0, .int .i64 a0_1, .int .i64 t195, .int .i64 t196, .string t197, .string a0_5, .slice none 0 0] 28 (0, 0)) (by (with_reducible repeat (first | refine blk_drewN ?_ _ | refine blk_drew ?_ | refine blk_alloc ?_ _)); refine blk_put (cs := #[.int .i64 a0_0, .int .i64 a0_1, .int .i64 t195, .int .i64 t196, .string t197, .string (⟨#[]⟩ : ByteArray), .slice none 0 0]) ?_ 5 _ rfl; (with_reducible repeat (first | refine blk_drewN ?_ _ | refine blk_drew ?_ | refine blk_alloc ?_ _)); refine blk_put (cs := #[.int .i64 a0_0, .int .i64 a0_1, .int .i64 t195, .int .i64 t196, .string (⟨#[]⟩ : ByteArray), .string (⟨#[]⟩ : ByteArray), .slice none 0 0]) ?_ 4 _ rfl; (with_reducible repeat (first | refine blk_drewN ?_ _ | refine blk_drew ?_ | refine blk_alloc ?_ _)); refine blk_put (cs := #[.int .i64 a0_0, .int .i64 a0_1, .int .i64 t195, .int .i64 0, .string (⟨#[]⟩ : ByteArray), .string (⟨#[]⟩ : ByteArray), .slice none 0 0]) ?_ 3 _ rfl; (with_reducible repeat (first | refine blk_drewN ?_ _ | refine blk_drew ?_ | refine blk_alloc ?_ _)); refine blk_put (cs := #[.int .i64 a0_0, .int .i64 a0_1, .int .i64 0, .int .i64 0, .string (⟨#[]⟩ : ByteArray), .string (⟨#[]⟩ : ByteArray), .slice none 0 0]) ?_ 2 _ rfl; (with_reducible repeat (first | refine blk_drewN ?_ _ | refine blk_drew ?_ | refine blk_alloc ?_ _)); exact BK194.out)) (below_size bb_)); replace BK192 := Aside0.mk (blk_below (g := gb192) (o := .cells #[.int .i64 a0_0, .int .i64 a0_1, .int .i64 a0_2, .int .i64 a0_3, .string a0_4, .string a0_5, .slice A0_6 l0_6.length c0_6] 58 (0, 0)) (bf4_ NB192_194 (bkx_ BK192.out)) hb); replace BK193 := Aside0.mk (blk_below (g := gb193) (o := .cells #[.int .i64 0, .int .i64 0, .int .i64 0, .int .i64 0, .string (⟨#[]⟩ : ByteArray), .string (⟨#[]⟩ : ByteArray), .slice none 0 0] 28 (0, 0)) (bf4_ NB193_194 (bkx_ BK193.out)) hb); replace BK194 := Aside0.mk (blk_below (g := gb194) (o := .cells #[.int .i64 a0_0, .int .i64 a0_1, .int .i64 t195, .int .i64 t196, .string t197, .string a0_5, .slice none 0 0] 28 (0, 0)) (by (with_reducible repeat (first | refine blk_drewN ?_ _ | refine blk_drew ?_ | refine blk_alloc ?_ _)); refine blk_put (cs := #[.int .i64 a0_0, .int .i64 a0_1, .int .i64 t195, .int .i64 t196, .string t197, .string (⟨#[]⟩ : ByteArray), .slice none 0 0]) ?_ 5 _ rfl; (with_reducible repeat (first | refine blk_drewN ?_ _ | refine blk_drew ?_ | refine blk_alloc ?_ _)); refine blk_put (cs := #[.int .i64 a0_0, .int .i64 a0_1, .int .i64 t195, .int .i64 t196, .string (⟨#[]⟩ : ByteArray), .string (⟨#[]⟩ : ByteArray), .slice none 0 0]) ?_ 4 _ rfl; (with_reducible repeat (first | refine blk_drewN ?_ _ | refine blk_drew ?_ | refine blk_alloc ?_ _)); refine blk_put (cs := #[.int .i64 a0_0, .int .i64 a0_1, .int .i64 t195, .int .i64 0, .string (⟨#[]⟩ : ByteArray), .string (⟨#[]⟩ : ByteArray), .slice none 0 0]) ?_ 3 _ rfl; (with_reducible repeat (first | refine blk_drewN ?_ _ | refine blk_drew ?_ | refine blk_alloc ?_ _)); refine blk_put (cs := #[.int .i64 a0_0, .int .i64 a0_1, .int .i64 0, .int .i64 0, .string (⟨#[]⟩ : ByteArray), .string (⟨#[]⟩ : ByteArray), .slice none 0 0]) ?_ 2 _ rfl; (with_reducible repeat (first | refine blk_drewN ?_ _ | refine blk_drew ?_ | refine blk_alloc ?_ _)); exact BK194.out) hb); replace HB := bs_ hb; (try clear hb); (try clear hb2); (try clear hk); (try clear hi); (try clear ho0); obtain ⟨Ao16, co16, eo16⟩ := Kd.S_slice HO200.out; subst eo16; obtain ⟨hcz17_0, hcz17_1, hcz17_2, hcz17_3, hcz17_4, hcz17_5, hcz17_6, hfz17_0, hfz17_1, hfz17_2, hfz17_3, hfz17_4, hfz17_5, hfz17_6⟩ := b7_ BK194; obtain ⟨hcz18_0, hcz18_1, hcz18_2, hcz18_3, hcz18_4, hcz18_5, hcz18_6, hfz18_0, hfz18_1, hfz18_2, hfz18_3, hfz18_4, hfz18_5, hfz18_6⟩ := b7_ BK193))
 refine bodyPost_ret (results_cell_row rfl _ _ gb193 28 #[.int .i64 a0_0, .int .i64 a0_1, .int .i64 t195, .int .i64 t196, .string t197, .string a0_5, .slice Ao16 t198.length co16] (0, 0) _ rfl (by (with_reducible repeat (first | refine blk_drewN ?_ _ | refine blk_drew ?_ | refine blk_alloc ?_ _)); refine blk_put (cs := #[.int .i64 a0_0, .int .i64 a0_1, .int .i64 t195, .int .i64 t196, .string t197, .string a0_5, .slice none 0 0]) ?_ 6 _ rfl; (with_reducible repeat (first | refine blk_drewN ?_ _ | refine blk_drew ?_ | refine blk_alloc ?_ _)); refine blk_put (cs := #[.int .i64 a0_0, .int .i64 a0_1, .int .i64 t195, .int .i64 t196, .string t197, .string (⟨#[]⟩ : ByteArray), .slice none 0 0]) ?_ 5 _ rfl; (with_reducible repeat (first | refine blk_drewN ?_ _ | refine blk_drew ?_ | refine blk_alloc ?_ _)); refine blk_put (cs := #[.int .i64 a0_0, .int .i64 a0_1, .int .i64 t195, .int .i64 t196, .string (⟨#[]⟩ : ByteArray), .string (⟨#[]⟩ : ByteArray), .slice none 0 0]) ?_ 4 _ rfl; (with_reducible repeat (first | refine blk_drewN ?_ _ | refine blk_drew ?_ | refine blk_alloc ?_ _)); refine blk_put (cs := #[.int .i64 a0_0, .int .i64 a0_1, .int .i64 t195, .int .i64 0, .string (⟨#[]⟩ : ByteArray), .string (⟨#[]⟩ : ByteArray), .slice none 0 0]) ?_ 3 _ rfl; (with_reducible repeat (first | refine blk_drewN ?_ _ | refine blk_drew ?_ | refine blk_alloc ?_ _)); refine blk_put (cs := #[.int .i64 a0_0, .int .i64 a0_1, .int .i64 0, .int .i64 0, .string (⟨#[]⟩ : ByteArray), .string (⟨#[]⟩ : ByteArray), .slice none 0 0]) ?_ 2 _ rfl; (with_reducible repeat (first | refine blk_drewN ?_ _ | refine blk_drew ?_ | refine blk_alloc ?_ _)); refine blk_put (cs := #[.int .i64 a0_0, .int .i64 0, .int .i64 0, .int .i64 0, .string (⟨#[]⟩ : ByteArray), .string (⟨#[]⟩ : ByteArray), .slice none 0 0]) ?_ 1 _ rfl; (with_reducible repeat (first | refine blk_drewN ?_ _ | refine blk_drew ?_ | refine blk_alloc ?_ _)); refine blk_put (cs := #[.int .i64 0, .int .i64 0, .int .i64 0, .int .i64 0, .string (⟨#[]⟩ : ByteArray), .string (⟨#[]⟩ : ByteArray), .slice none 0 0]) ?_ 0 _ rfl; (with_reducible repeat (first | refine blk_drewN ?_ _ | refine blk_drew ?_ | refine blk_alloc ?_ _)); refine blk_far ?_ NB193_194.out _; (with_reducible repeat (first | refine blk_drewN ?_ _ | refine blk_drew ?_ | refine blk_alloc ?_ _)); exact BK193.out) Try.underlying28 rfl (by kernel_rfl)) rfl ?_
 exact ⟨_, by first | rfl | (simp [errW_none, errW_some] <;> rfl) | (simp [*, errW_none, errW_some] <;> rfl), by (with_reducible repeat (first | apply Kd.S_alloc | apply Kd.S_drewN | apply Kd.S_drew)); exact Kd.S_mono (Kd.S_far (p := ⟨gb193, 6, none⟩) (Kd.S_far (p := ⟨gb193, 5, none⟩) (Kd.S_far (p := ⟨gb193, 4, none⟩) (Kd.S_far (p := ⟨gb193, 3, none⟩) (Kd.S_far (p := ⟨gb193, 2, none⟩) (Kd.S_far (p := ⟨gb193, 1, none⟩) (Kd.S_far (p := ⟨gb193, 0, none⟩) (Kd.S_far (p := ⟨gb194, 6, none⟩) (Kd.S_mono (Kd.S_mono HO200.out (fun k_ hk => (⟨hk, hk.2⟩ : _ ∧ k_ ≠ gb194))) (fun k_ hk => (⟨hk, hk.1.1.2⟩ : _ ∧ k_ ≠ gb193))) (fun _ hk => hk.1.2) (.slice Ao16 t198.length co16)) (fun _ hk => hk.2) (.int .i64 a0_0)) (fun _ hk => hk.2) (.int .i64 a0_1)) (fun _ hk => hk.2) (.int .i64 t195)) (fun _ hk => hk.2) (.int .i64 t196)) (fun _ hk => hk.2) (.string t197)) (fun _ hk => hk.2) (.string a0_5)) (fun _ hk => hk.2) (.slice Ao16 t198.length co16)) (fun _ hk => trivial), by repeat (first | (with_reducible first | exact HB.out | apply below_alloc | apply pw_below_drewN | apply below_drew1 | refine below_set ?_ GE192.out | refine below_set ?_ GE193.out | refine below_set ?_ GE194.out) | exact HB.out)⟩

/-! ### laws_toExpS: function 8 -/
def laws_toExpS.l0 (E_ : (List (S58)) → Option ((List (S28)))) : Nat → List (S58) → List (S28) → Int → Option ((List (S28)))
 | 0, _, _, _ => none
 | k + 1, x0, x3, x4 => if x4 < (x0.length : Int) then (if 0 ≤ x4 then ((laws_toExp.f E_ ((rd_T58 x0 x4).f0) ((rd_T58 x0 x4).f1) ((rd_T58 x0 x4).f2.f0) ((rd_T58 x0 x4).f2.f1) ((rd_T58 x0 x4).f2.f2) ((rd_T58 x0 x4).f3) ((rd_T58 x0 x4).f4)).bind fun bt205 => (if x4 < (x3.length : Int) then (laws_toExpS.l0 E_ k x0 (x3.set (x4 : Int).toNat (⟨bt205.1, bt205.2.1, (⟨bt205.2.2.1, bt205.2.2.2.1, bt205.2.2.2.2.1⟩ : S25), bt205.2.2.2.2.2.1, bt205.2.2.2.2.2.2⟩ : S28)) (wrap64 (x4 + 1))) else (none))) else (none)) else (some x3)
def laws_toExpS.f : Nat → (List (S58)) → Option ((List (S28)))
 | 0, _ => none
 | k + 1, l0 => if 0 ≤ (l0.length : Int) then (if ((l0.length : Int) : Int).toNat ≤ 3198579280802 then (laws_toExpS.l0 (laws_toExpS.f k) k l0 (List.replicate ((l0.length : Int) : Int).toNat z28) 0) else (none)) else (none)
set_option maxHeartbeats 8000000 in
set_option maxRecDepth 100000 in
theorem laws_toExpS.calls : ∀ (k : Nat) (A0 : Option Addr) (c0 : Nat) (l0 : List (S58)) (r : List (S28)) (w : World) (hr0 : Kd.C k58 w A0 l0.length l0) (hc0 : l0.length ≤ c0) (h : laws_toExpS.f k l0 = some r),
  Calls Try.prog 8 #[.slice A0 l0.length c0] w fun e w' => ∃ v0_ : Value, e = .returned (v0_) ∧ Kd.S k28 28 w' w.heap.size (fun _ => True) v0_ r ∧ Below w.heap.size w w' := by
 intro k
 induction k with
 | zero =>
  intro A0 c0 l0 r w hr0 hc0 h
  exact absurd h (by simp [laws_toExpS.f])
 | succ k ih_ =>
  intro A0 c0 l0 r w hr0 hc0 h
  have hu58 := Try.underlying58
  have hu28 := Try.underlying28
  have HR0 := Aside0.mk hr0
  have HC0 := Aside0.mk hc0
  clear hr0 hc0
  have HB := Aside0.mk (Below.refl w.heap.size w)
  have H : (if 0 ≤ (l0.length : Int) then (if ((l0.length : Int) : Int).toNat ≤ 3198579280802 then (laws_toExpS.l0 (laws_toExpS.f k) k l0 (List.replicate ((l0.length : Int) : Int).toNat z28) 0) else (none)) else (none)) = some r := h
  clear h
  by_cases c2 : 0 ≤ (l0.length : Int)
  ·rw [if_pos c2] at H
   have c2b0 := eq_true c2
   have c2b1 : decide (0 ≤ (l0.length : Int)) = true := decide_eq_true c2
   clear c2
   by_cases c3 : ((l0.length : Int) : Int).toNat ≤ 3198579280802
   ·rw [if_pos c3] at H
    have c3b0 := eq_true c3
    have c3b1 : decide (((l0.length : Int) : Int).toNat ≤ 3198579280802) = true := decide_eq_true c3
    clear c3
    obtain ⟨y201, hy201⟩ : ∃ y_ : List (S28), y_ = (List.replicate ((l0.length : Int) : Int).toNat z28) := ⟨_, rfl⟩
    replace H : (laws_toExpS.l0 (laws_toExpS.f k) k l0 y201 0) = some r := by first | (rw [hy201]; with_reducible exact H) | (have H2_ := (Option.bind_some _ _).symm.trans H; rw [hy201]; with_reducible exact H2_) | (have H2_ := (Option.bind_some _ _).symm.trans H; with_reducible exact H2_) | with_reducible exact H | (rw [hy201]; exact H) | exact H
    have Ny201 := Aside0.mk hy201
    clear hy201
    have H' := Aside0.mk H
    clear H
    go_enter Try.func8, Try.ntmps8
    go_wp2_with (first | ((with_reducible refine gate_dst (N := 7) rfl ?_); refine Kd.S_make k28 _ 28 rfl (N := 7) rfl 26 _ _ rfl (l0.length : Int) rfl rfl Try.underlying26 (.agg #[(.int .i64 0), (.int .i64 0), (.int .i64 0), (.int .i64 0), (.string ⟨#[]⟩), (.string ⟨#[]⟩), (.slice none 0 0)]) 88 info28 rfl (by decide) (by omega) z28 (ok := fun _ => True) (okp := fun _ => True) (k28_mkM _ _ _ z28 (Kd.S_nil _ _ _ _ _)) (fun _ hk => hk) trivial (of_decide_eq_true (by first | (with_reducible assumption) | assumption)) (Nat.le_trans (Nat.mul_le_mul_right _ (of_decide_eq_true (by first | (with_reducible assumption) | assumption) : (l0.length : Int).toNat ≤ 3198579280802)) (by omega)) (Below.refl _ _) (Nat.le_refl _) ?_; intro v202 w4 ho5 hb hg_ hnew_; clear hg_ hnew_; (first | rw [← Ny201.out] at ho5 | (simp only [Int.reduceToNat] at ho5; rw [← Ny201.out] at ho5)); have HO203 := Aside0.mk (Kd.S_lower ho5 (below_size bb_)); replace HB := bs_ hb; clear hb ho5))
    go_loopg [4] k (fun kq v4 w' => ∃ (x3_1 : List (S28)) (x4_1 : Int), v4 = .int .i64 x4_1 ∧ Aside0 (laws_toExpS.l0 (laws_toExpS.f k) kq l0 x3_1 x4_1 = some r) ∧ Aside0 (kq ≤ k) ∧ Aside0 (Kd.S k28 28 w' w.heap.size (fun _ => True) v202 x3_1) ∧ Aside0 (Below w.heap.size w w'))
    case atStart => exact ⟨(y201), (0), rs_, H', ⟨Nat.le_refl _⟩, ⟨by (with_reducible repeat (first | apply Kd.S_alloc | apply Kd.S_drewN | apply Kd.S_drew)); exact HO203.out⟩, ⟨bb_⟩⟩
    case round =>
     clear H'
     try clear c2
     try clear c2b0
     try clear c2b1
     try clear p2
     try clear c3
     try clear c3b0
     try clear c3b1
     obtain ⟨x3_1, x4_1, rfl, HA, HK1, HO_3, HB⟩ := hrel
     cases gk with
     | zero => exact absurd HA.out (by simp [laws_toExpS.l0])
     | succ k1 =>
      have H := HA.out
      clear HA
      simp only [laws_toExpS.l0] at H
      by_cases c6 : x4_1 < (l0.length : Int)
      ·rw [if_pos c6] at H
       have c6b0 : decide (x4_1 < (l0.length : Int)) = true := decide_eq_true c6
       clear c6
       by_cases c7 : 0 ≤ x4_1
       ·rw [if_pos c7] at H
        have c7b0 : decide (0 ≤ x4_1) = true := decide_eq_true c7
        clear c7
        replace H := Option.bind_eq_some_iff.mp H
        obtain ⟨⟨t205, t206, t207, t208, t209, t210, t211⟩, A80, H⟩ := H
        replace H : (if x4_1 < (x3_1.length : Int) then (laws_toExpS.l0 (laws_toExpS.f k) k1 l0 (x3_1.set (x4_1 : Int).toNat (⟨t205, t206, (⟨t207, t208, t209⟩ : S25), t210, t211⟩ : S28)) (wrap64 (x4_1 + 1))) else (none)) = some r := H
        have A8 := Aside0.mk A80
        clear A80
        by_cases c9 : x4_1 < (x3_1.length : Int)
        ·rw [if_pos c9] at H
         have c9b0 : decide (x4_1 < (x3_1.length : Int)) = true := decide_eq_true c9
         clear c9
         obtain ⟨y214, hy214⟩ : ∃ y_ : List (S28), y_ = (x3_1.set (x4_1 : Int).toNat (⟨t205, t206, (⟨t207, t208, t209⟩ : S25), t210, t211⟩ : S28)) := ⟨_, rfl⟩
         replace H : (laws_toExpS.l0 (laws_toExpS.f k) k1 l0 y214 (wrap64 (x4_1 + 1))) = some r := by first | (rw [hy214]; with_reducible exact H) | (have H2_ := (Option.bind_some _ _).symm.trans H; rw [hy214]; with_reducible exact H2_) | (have H2_ := (Option.bind_some _ _).symm.trans H; with_reducible exact H2_) | with_reducible exact H | (rw [hy214]; exact H) | exact H
         have Ny214 := Aside0.mk hy214
         clear hy214
         have H' := Aside0.mk H
         clear H
         have p204 : 0 ≤ (x4_1 : Int) := of_decide_eq_true (by first | (with_reducible assumption) | assumption)
         have q204 : x4_1 < (l0.length : Int) := of_decide_eq_true (by first | (with_reducible assumption) | assumption)
         obtain ⟨ad204, A204_6, c204_6, e204, hx204_0, hx204_1, hx204_2, hx204_3, hx204_4, hx204_5, hx204_6, hl204_6, hi204_6⟩ := at_T58 HR0.out x4_1 p204 q204
         cases e204
         replace hx204_0 := hb_ HB hx204_0
         replace hx204_1 := hb_ HB hx204_1
         replace hx204_2 := hb_ HB hx204_2
         replace hx204_3 := hb_ HB hx204_3
         replace hx204_4 := hb_ HB hx204_4
         replace hx204_5 := hb_ HB hx204_5
         replace hx204_6 := hb_ HB hx204_6
         have HR204_6 := Aside0.mk hi204_6
         have HC204_6 := Aside0.mk hl204_6
         clear hi204_6 hl204_6
         replace p204 := eq_true p204
         replace q204 := eq_true q204
         go_wp2_with (first | ((with_reducible refine gate_callee (f := 34) rfl ?_); refine gsL_ (some 20) Try.func34 #[.agg #[.int .i64 ((rd_T58 l0 x4_1).f0), .int .i64 ((rd_T58 l0 x4_1).f1), .int .i64 ((rd_T58 l0 x4_1).f2.f0), .int .i64 ((rd_T58 l0 x4_1).f2.f1), .string ((rd_T58 l0 x4_1).f2.f2), .string ((rd_T58 l0 x4_1).f3), .slice A204_6 ((rd_T58 l0 x4_1).f4).length c204_6]] ?_; (with_reducible refine (laws_toExp.calls (laws_toExpS.f k) ih_ ((rd_T58 l0 x4_1).f0) ((rd_T58 l0 x4_1).f1) ((rd_T58 l0 x4_1).f2.f0) ((rd_T58 l0 x4_1).f2.f1) ((rd_T58 l0 x4_1).f2.f2) ((rd_T58 l0 x4_1).f3) _ _ ((rd_T58 l0 x4_1).f4) t205 t206 t207 t208 t209 t210 t211 _ ?side1 ?side2 A8.out).mono ?_); (case side1 => exact ck_ (Kd.C_below HR204_6.out HB.out)); (case side2 => exact HC204_6.out); rintro e w11 ⟨v212, rfl, ho0, hb⟩; refine ⟨_, rfl, ?_⟩; obtain ⟨nA_, hn_, HN_, HE_⟩ := Kd.S_after_call ho0 (sk_ HO_3.out) hb (below_size bb_); replace HN_ := Aside0.mk HN_; replace HE_ := Aside0.mk HE_; clear hn_; have HO213 := Aside0.mk (Kd.S_lower (Kd.S_new' ho0 (Kd.S_lt (sk_ HO_3.out))) (below_size bb_)); replace HO_3 := Aside0.mk (Kd.S_elder' (sk_ HO_3.out) (Kd.S_base ho0) hb); replace HB := bs_ hb; (try clear hb); (try clear hb2); (try clear hk); (try clear hi); (try clear ho0); have p10 : 0 ≤ (x4_1 : Int) := of_decide_eq_true (by first | (with_reducible assumption) | assumption); have q10 : (x4_1 : Int) < ((x3_1.length : Int) : Int) := of_decide_eq_true (by first | (with_reducible assumption) | assumption); obtain ⟨go10, co10, eo10, gb10, gl10, cl10, HG10⟩ := Kd.S_form HO_3.out (by omega); (first | cases eo10 | (injection eo10 with ea_ en_ ec_; (first | subst ea_ | (injection ea_ with ea_; subst ea_)); subst ec_; clear en_)); have GB10 := Aside0.mk gb10; have GG10 := Aside0.mk HG10; clear gb10 gl10 HG10; obtain ⟨_, ce10, hcl10, hM10, hcc10, hfr10, _, _⟩ := Kd.S_elem HO_3.out z28 (x4_1 : Int) p10 q10; obtain ⟨ve10_6, rfl, ge10_6⟩ := k28_openM hM10; have hx10_0 : w11.cell? ⟨go10, (x4_1 : Int).toNat * 7, none⟩ = some (.int .i64 ((rd_T28 x3_1 x4_1).f0)) := hcc10 0 _ rfl; have hx10_1 : w11.cell? ⟨go10, (x4_1 : Int).toNat * 7 + 1, none⟩ = some (.int .i64 ((rd_T28 x3_1 x4_1).f1)) := hcc10 1 _ rfl; have hx10_2 : w11.cell? ⟨go10, (x4_1 : Int).toNat * 7 + 2, none⟩ = some (.int .i64 ((rd_T28 x3_1 x4_1).f2.f0)) := hcc10 2 _ rfl; have hx10_3 : w11.cell? ⟨go10, (x4_1 : Int).toNat * 7 + 3, none⟩ = some (.int .i64 ((rd_T28 x3_1 x4_1).f2.f1)) := hcc10 3 _ rfl; have hx10_4 : w11.cell? ⟨go10, (x4_1 : Int).toNat * 7 + 4, none⟩ = some (.string ((rd_T28 x3_1 x4_1).f2.f2)) := hcc10 4 _ rfl; have hx10_5 : w11.cell? ⟨go10, (x4_1 : Int).toNat * 7 + 5, none⟩ = some (.string ((rd_T28 x3_1 x4_1).f3)) := hcc10 5 _ rfl; have hx10_6 : w11.cell? ⟨go10, (x4_1 : Int).toNat * 7 + 6, none⟩ = some (ve10_6) := hcc10 6 _ rfl; have hf10_0 : w11.frozen? ⟨go10, (x4_1 : Int).toNat * 7, none⟩ = false := hfr10 0; have hf10_1 : w11.frozen? ⟨go10, (x4_1 : Int).toNat * 7 + 1, none⟩ = false := hfr10 1; have hf10_2 : w11.frozen? ⟨go10, (x4_1 : Int).toNat * 7 + 2, none⟩ = false := hfr10 2; have hf10_3 : w11.frozen? ⟨go10, (x4_1 : Int).toNat * 7 + 3, none⟩ = false := hfr10 3; have hf10_4 : w11.frozen? ⟨go10, (x4_1 : Int).toNat * 7 + 4, none⟩ = false := hfr10 4; have hf10_5 : w11.frozen? ⟨go10, (x4_1 : Int).toNat * 7 + 5, none⟩ = false := hfr10 5; have hf10_6 : w11.frozen? ⟨go10, (x4_1 : Int).toNat * 7 + 6, none⟩ = false := hfr10 6; clear hcl10 hcc10 hfr10 hM10; replace p10 := eq_true p10; replace q10 := eq_true q10; obtain ⟨Ao12, co12, eo12⟩ := Kd.S_slice HO213.out; subst eo12; have n_ := Aside0.mk (Kd.S_mono (ok' := (fun k_ => some k_ ≠ (.slice Ao12 t211.length co12 : Value).ownBlock)) HO_3.out (fun k_ hk => hk.2)); clear HO_3; have HO_3 := n_; clear n_; have HX13 := Aside0.mk (show Kd.S k28 28 w11 w.heap.size (fun k_ => ((fun _ => True)) k_ ∧ ¬ ((fun k_ => nA_ ≤ k_)) k_) (.slice (some ⟨go10, 0, none⟩) x3_1.length co10) x3_1 from (sk_ (Kd.S_mono HE_.out (fun k_ hk => ⟨trivial, Nat.not_le.2 hk.2⟩)))); obtain ⟨oki13, ce13, hcl13, hM13, hcc13, hfr13, hoki13, hH13⟩ := Kd.S_elem HX13.out z28 (x4_1 : Int) (of_decide_eq_true (by first | (with_reducible assumption) | assumption)) (by have h_ : (x4_1 : Int) < ((x3_1.length : Int) : Int) := of_decide_eq_true (by first | (with_reducible assumption) | assumption); first | exact h_ | (have e_ := (Kd.S_reads' HO_3.out).1; omega) | simpa using h_); obtain ⟨ve13_6, rfl, ge13_6⟩ := k28_openM hM13; have HP13 := Kd.S_seg hH13 (of_decide_eq_true (by first | (with_reducible assumption) | assumption)) (by have h_ : (x4_1 : Int) < ((x3_1.length : Int) : Int) := of_decide_eq_true (by first | (with_reducible assumption) | assumption); first | exact h_ | (have e_ := (Kd.S_reads' HO_3.out).1; omega) | simpa using h_) (seg := [.int .i64 t205, .int .i64 t206, .int .i64 t207, .int .i64 t208, .string t209, .string t210, .slice Ao12 t211.length co12]) (j := 0) (show 7 ≤ 7 from by decide) (x' := (⟨t205, t206, (⟨t207, t208, t209⟩ : S25), t210, t211⟩ : S28)) (k28_mkM _ _ _ (⟨t205, t206, (⟨t207, t208, t209⟩ : S25), t210, t211⟩ : S28) (Kd.S_mono HN_.out (fun _ h_ => Or.inr h_.2))) (fun _ hk => hk) (fun k_ hk_ => ⟨trivial, fun e_ => Nat.not_le.2 ((Kd.S_R HE_.out).1 go10 rfl).2 (e_ ▸ hk_)⟩); have hx13_0 := hcc13 0 _ rfl; (try simp only [show (k28).sz = 7 from rfl, Nat.mul_one, Nat.add_zero] at hx13_0); have hf13_0 := hfr13 0; (try simp only [show (k28).sz = 7 from rfl, Nat.mul_one, Nat.add_zero] at hf13_0); have hx13_1 := hcc13 1 _ rfl; (try simp only [show (k28).sz = 7 from rfl, Nat.mul_one, Nat.add_zero] at hx13_1); have hf13_1 := hfr13 1; (try simp only [show (k28).sz = 7 from rfl, Nat.mul_one, Nat.add_zero] at hf13_1); have hx13_2 := hcc13 2 _ rfl; (try simp only [show (k28).sz = 7 from rfl, Nat.mul_one, Nat.add_zero] at hx13_2); have hf13_2 := hfr13 2; (try simp only [show (k28).sz = 7 from rfl, Nat.mul_one, Nat.add_zero] at hf13_2); have hx13_3 := hcc13 3 _ rfl; (try simp only [show (k28).sz = 7 from rfl, Nat.mul_one, Nat.add_zero] at hx13_3); have hf13_3 := hfr13 3; (try simp only [show (k28).sz = 7 from rfl, Nat.mul_one, Nat.add_zero] at hf13_3); have hx13_4 := hcc13 4 _ rfl; (try simp only [show (k28).sz = 7 from rfl, Nat.mul_one, Nat.add_zero] at hx13_4); have hf13_4 := hfr13 4; (try simp only [show (k28).sz = 7 from rfl, Nat.mul_one, Nat.add_zero] at hf13_4); have hx13_5 := hcc13 5 _ rfl; (try simp only [show (k28).sz = 7 from rfl, Nat.mul_one, Nat.add_zero] at hx13_5); have hf13_5 := hfr13 5; (try simp only [show (k28).sz = 7 from rfl, Nat.mul_one, Nat.add_zero] at hf13_5); have hx13_6 := hcc13 6 _ rfl; (try simp only [show (k28).sz = 7 from rfl, Nat.mul_one, Nat.add_zero] at hx13_6); have hf13_6 := hfr13 6; (try simp only [show (k28).sz = 7 from rfl, Nat.mul_one, Nat.add_zero] at hf13_6); clear hcl13 hcc13 hfr13 hM13 hoki13 hH13) | ((with_reducible refine gate_store (t := 28) (p := 21) rfl ?_); refine store_event (t := 28) (p := 21) (v := ?vo_w14) (w1 := (((((((w11.setCell ⟨go10, (x4_1 : Int).toNat * 7, none⟩ (.int .i64 t205)).setCell ⟨go10, (x4_1 : Int).toNat * 7 + 1, none⟩ (.int .i64 t206)).setCell ⟨go10, (x4_1 : Int).toNat * 7 + 2, none⟩ (.int .i64 t207)).setCell ⟨go10, (x4_1 : Int).toNat * 7 + 3, none⟩ (.int .i64 t208)).setCell ⟨go10, (x4_1 : Int).toNat * 7 + 4, none⟩ (.string t209)).setCell ⟨go10, (x4_1 : Int).toNat * 7 + 5, none⟩ (.string t210)).setCell ⟨go10, (x4_1 : Int).toNat * 7 + 6, none⟩ (.slice Ao12 t211.length co12))) ?hg ?ho ?hn ?hr ?_; (case ho => rfl); (case hg => rfl); (case hn => rfl); (case hr => first | (go_simp; done) | (go_simp; rfl)); intro w14 hw; have hg : w11.grownBy w14 (some go10) := (by rw [hw]; exact HP13.2); have hp_ : Kd.S k28 28 w14 w.heap.size (fun _ => True) (.slice (some ⟨go10, 0, none⟩) x3_1.length co10) y214 := (by rw [hw, Ny214.out]; exact HP13.1); clear HP13; replace HO_3 := Aside0.mk (hp_); replace HB := Aside0.mk ((by rw [hw]; exact below_set (below_set (below_set (below_set (below_set (below_set (below_set (HB.out) GB10.out) GB10.out) GB10.out) GB10.out) GB10.out) GB10.out) GB10.out : Below w.heap.size w w14)); clear HO213; clear hg hw hp_))
         go_roundg k1
         case measure => have := HK1.out; omega
         case rel => exact ⟨(y214), (wrap64 (x4_1 + 1)), rs_, H', ⟨by have := HK1.out; omega⟩, ⟨by (with_reducible repeat (first | apply Kd.S_alloc | apply Kd.S_drewN | apply Kd.S_drew)); exact HO_3.out⟩, ⟨bb_⟩⟩
        ·rw [if_neg c9] at H
         exact absurd H (by simp)
       ·rw [if_neg c7] at H
        exact absurd H (by simp)
      ·rw [if_neg c6] at H
       have c6b0 : decide (x4_1 < (l0.length : Int)) = false := decide_eq_false c6
       clear c6
       obtain rfl := Option.some.inj H
       go_wp2
       go_ret
       exact ⟨_, by first | rfl | (simp [errW_none, errW_some] <;> rfl) | (simp [*, errW_none, errW_some] <;> rfl), by (with_reducible repeat (first | apply Kd.S_alloc | apply Kd.S_drewN | apply Kd.S_drew)); exact HO_3.out, by repeat (first | (with_reducible first | exact HB.out | apply below_alloc | apply pw_below_drewN | apply below_drew1) | exact HB.out)⟩
   ·rw [if_neg c3] at H
    exact absurd H (by simp)
  ·rw [if_neg c2] at H
   exact absurd H (by simp)

/-! ### impl_valueExp: function 35 -/
def impl_valueExp.f (a0_0 : Int) (a0_1 : Int) (a0_2 : ByteArray) : Option (Int × Int × Int × Int × ByteArray × ByteArray × (List (S28))) := some (1, 0, a0_0, a0_1, a0_2, (⟨#[]⟩ : ByteArray), ([] : List (S28)))
set_option maxHeartbeats 8000000 in
set_option maxRecDepth 100000 in
theorem impl_valueExp.calls (a0_0 : Int) (a0_1 : Int) (a0_2 : ByteArray) (r1 : Int) (r2 : Int) (r3 : Int) (r4 : Int) (r5 : ByteArray) (r6 : ByteArray) (r7 : List (S28)) (w : World) (h : impl_valueExp.f a0_0 a0_1 a0_2 = some (r1, r2, r3, r4, r5, r6, r7)) :
  Calls Try.prog 35 #[.agg #[.int .i64 a0_0, .int .i64 a0_1, .string a0_2]] w fun e w' => ∃ v6_ : Value, e = .returned (.agg #[.int .i64 r1, .int .i64 r2, .int .i64 r3, .int .i64 r4, .string r5, .string r6, v6_]) ∧ Kd.S k28 28 w' w.heap.size (fun _ => True) v6_ r7 ∧ Below w.heap.size w w' := by
 have hu25 := Try.underlying25
 have hu28 := Try.underlying28
 have HB := Aside0.mk (Below.refl w.heap.size w)
 have H : (some (1, 0, a0_0, a0_1, a0_2, (⟨#[]⟩ : ByteArray), ([] : List (S28)))) = some (r1, r2, r3, r4, r5, r6, r7) := h
 clear h
 simp only [Option.some.injEq, Prod.mk.injEq] at H
 obtain ⟨rfl, rfl, rfl, rfl, rfl, rfl, rfl⟩ := H
 go_enter Try.func35, Try.ntmps35
 go_wp2_with (first | ((with_reducible refine gate_dst (N := 1) rfl ?_); refine bx_ 1 #[.int .i64 a0_0, .int .i64 a0_1, .string a0_2] 25 ?_; intro gb215 hg w2 hbox hb; have BK215 := Aside0.mk (hbox); have GW215 := gw_ hg; have GE215 := gw_ hg; replace HB := bs_ hb; clear hb hbox hg) | ((with_reducible refine gate_dst (N := 2) rfl ?_); refine bx_ 2 #[.int .i64 0, .int .i64 0, .int .i64 0, .int .i64 0, .string (⟨#[]⟩ : ByteArray), .string (⟨#[]⟩ : ByteArray), .slice none 0 0] 28 ?_; intro gb216 hg w3 hbox hb; have BK216 := Aside0.mk (hbox); have GW216 := gw_ hg; have GE216 := gw_ hg; have NB215_216 := nl_ hg BK215; have NB216_215 := ng_ hg BK215; replace BK215 := bkb_ BK215 hb; replace HB := bs_ hb; clear hb hbox hg; have hnb4 := NB215_216.out; have hnc4 := NB216_215.out; obtain ⟨hcz5_0, hcz5_1, hcz5_2, hfz5_0, hfz5_1, hfz5_2⟩ := b3_ BK215; obtain ⟨hcz6_0, hcz6_1, hcz6_2, hcz6_3, hcz6_4, hcz6_5, hcz6_6, hfz6_0, hfz6_1, hfz6_2, hfz6_3, hfz6_4, hfz6_5, hfz6_6⟩ := b7_ BK216))
 refine bodyPost_ret (results_cell_row rfl _ _ gb216 28 #[.int .i64 1, .int .i64 0, .int .i64 a0_0, .int .i64 a0_1, .string a0_2, .string (⟨#[]⟩ : ByteArray), .slice none 0 0] (0, 0) _ rfl (bp7_ (bkx_ BK216.out)) Try.underlying28 rfl (by kernel_rfl)) rfl ?_
 exact ⟨_, by first | rfl | (simp [errW_none, errW_some] <;> rfl) | (simp [*, errW_none, errW_some] <;> rfl), by first | exact Kd.S_nil _ _ _ _ _ | exact Kd.N_nil _ _ _ _ _ | exact Kd.V_nil _ _ _ _ _ | exact Kd.Q_nil _ _ _ _ _ | exact Kd.R_nil _ _ _ _ _, by repeat (first | (with_reducible first | exact HB.out | apply below_alloc | apply pw_below_drewN | apply below_drew1 | refine below_set ?_ GE215.out | refine below_set ?_ GE216.out) | exact HB.out)⟩

/-! ### impl_null: function 36 -/
def impl_null.f  : Option (Int × Int × ByteArray) := some (0, 0, (⟨#[]⟩ : ByteArray))
set_option maxHeartbeats 8000000 in
set_option maxRecDepth 100000 in
theorem impl_null.calls  (r1 : Int) (r2 : Int) (r3 : ByteArray) (w : World) (h : impl_null.f  = some (r1, r2, r3)) :
  Calls Try.prog 36 #[] w fun e w' => e = .returned (.agg #[.int .i64 r1, .int .i64 r2, .string r3]) ∧ Below w.heap.size w w' := by
 have hu25 := Try.underlying25
 have HB := Aside0.mk (Below.refl w.heap.size w)
 have H : (some (0, 0, (⟨#[]⟩ : ByteArray))) = some (r1, r2, r3) := h
 clear h
 simp only [Option.some.injEq, Prod.mk.injEq] at H
 obtain ⟨rfl, rfl, rfl⟩ := H
 go_enter Try.func36, Try.ntmps36
 go_wp2_with (first | ((with_reducible refine gate_dst (N := 0) rfl ?_); refine bx_ 0 #[.int .i64 0, .int .i64 0, .string (⟨#[]⟩ : ByteArray)] 25 ?_; intro gb217 hg w1 hbox hb; have BK217 := Aside0.mk (hbox); have GW217 := gw_ hg; have GE217 := gw_ hg; replace HB := bs_ hb; clear hb hbox hg; obtain ⟨hcz2_0, hcz2_1, hcz2_2, hfz2_0, hfz2_1, hfz2_2⟩ := b3_ BK217))
 refine bodyPost_ret (results_cell_row rfl _ _ gb217 25 #[.int .i64 0, .int .i64 0, .string (⟨#[]⟩ : ByteArray)] (0, 0) _ rfl (bp3_ (bkx_ BK217.out)) Try.underlying25 rfl (by kernel_rfl)) rfl ?_
 exact ⟨er_, bb_⟩

/-! ### impl_flag: function 72 -/
def impl_flag.f (a0 : Bool) : Option (Int × Int × ByteArray) := if a0 = true then (some (2, 1, (⟨#[]⟩ : ByteArray))) else (some (2, 0, (⟨#[]⟩ : ByteArray)))
set_option maxHeartbeats 8000000 in
set_option maxRecDepth 100000 in
theorem impl_flag.calls (a0 : Bool) (r1 : Int) (r2 : Int) (r3 : ByteArray) (w : World) (h : impl_flag.f a0 = some (r1, r2, r3)) :
  Calls Try.prog 72 #[.bool a0] w fun e w' => e = .returned (.agg #[.int .i64 r1, .int .i64 r2, .string r3]) ∧ Below w.heap.size w w' := by
 have hu25 := Try.underlying25
 have HB := Aside0.mk (Below.refl w.heap.size w)
 have H : (if a0 = true then (some (2, 1, (⟨#[]⟩ : ByteArray))) else (some (2, 0, (⟨#[]⟩ : ByteArray)))) = some (r1, r2, r3) := h
 clear h
 by_cases c2 : a0 = true
 ·subst c2
  have H1 : (some (2, 1, (⟨#[]⟩ : ByteArray))) = some (r1, r2, r3) := by rw [if_pos rfl] at H; exact H
  clear H
  have H := H1
  clear H1
  simp only [Option.some.injEq, Prod.mk.injEq] at H
  obtain ⟨rfl, rfl, rfl⟩ := H
  go_enter Try.func72, Try.ntmps72
  go_wp2_with (first | ((with_reducible refine gate_dst (N := 2) rfl ?_); refine bx_ 2 #[.int .i64 0, .int .i64 0, .string (⟨#[]⟩ : ByteArray)] 25 ?_; intro gb218 hg w3 hbox hb; have BK218 := Aside0.mk (hbox); have GW218 := gw_ hg; have GE218 := gw_ hg; replace HB := bs_ hb; clear hb hbox hg; obtain ⟨hcz4_0, hcz4_1, hcz4_2, hfz4_0, hfz4_1, hfz4_2⟩ := b3_ BK218))
  refine bodyPost_ret (results_cell_row rfl _ _ gb218 25 #[.int .i64 2, .int .i64 1, .string (⟨#[]⟩ : ByteArray)] (0, 0) _ rfl (bp3_ (bkx_ BK218.out)) Try.underlying25 rfl (by kernel_rfl)) rfl ?_
  exact ⟨er_, bb_⟩
 ·replace c2 := Bool.eq_false_iff.mpr c2
  subst c2
  have H1 : (some (2, 0, (⟨#[]⟩ : ByteArray))) = some (r1, r2, r3) := by rw [if_neg (show ¬ (false = true) by decide)] at H; exact H
  clear H
  have H := H1
  clear H1
  simp only [Option.some.injEq, Prod.mk.injEq] at H
  obtain ⟨rfl, rfl, rfl⟩ := H
  go_enter Try.func72, Try.ntmps72
  go_wp2_with (first | ((with_reducible refine gate_dst (N := 2) rfl ?_); refine bx_ 2 #[.int .i64 0, .int .i64 0, .string (⟨#[]⟩ : ByteArray)] 25 ?_; intro gb218 hg w5 hbox hb; have BK218 := Aside0.mk (hbox); have GW218 := gw_ hg; have GE218 := gw_ hg; replace HB := bs_ hb; clear hb hbox hg; obtain ⟨hcz6_0, hcz6_1, hcz6_2, hfz6_0, hfz6_1, hfz6_2⟩ := b3_ BK218))
  refine bodyPost_ret (results_cell_row rfl _ _ gb218 25 #[.int .i64 2, .int .i64 0, .string (⟨#[]⟩ : ByteArray)] (0, 0) _ rfl (bp3_ (bkx_ BK218.out)) Try.underlying25 rfl (by kernel_rfl)) rfl ?_
  exact ⟨er_, bb_⟩

end Go.Proofs.Ytapgfamppnhnmaa.PFnExactAndAll
