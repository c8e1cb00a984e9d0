-- WRITTEN BY xprint.py, a program of this session over the kit's printer: by nobody's hand
-- PRESSED
import Derived.Test.YtnibegacjmnhoaaPress
import Derived.Test.YtnibegacjmnhoaaPFnExactPutBagx0
import Derived.Test.YtnibegacjmnhoaaPFnExactPutBagx5
import Derived.Test.YtnibegacjmnhoaaPFnExactPutBagx7
namespace Go.Proofs.Ytnibegacjmnhoaa.PFnExactPutBag
open Go.RowKit Go.Proofs.YtnibegacjmnhoaaW.PrintWords Go.Proofs.YtnibegacjmnhoaaW.PrintLast Go.Proofs.YtnibegacjmnhoaaW.PrintMore
set_option linter.unusedVariables false
set_option linter.unusedSimpArgs false

-- NOT PRINTED: function 53 (abi_NoEscape)

-- NOT PRINTED: function 40 (strings_Builder_copyCheck)

-- NOT PRINTED: function 20 (strings_Builder_WriteString)

/-! ### impl_big: function 21 -/
def impl_big.l0 : Nat → Int → Int → List Int → Int → Int → Option (ByteArray)
 | 0, _, _, _, _, _ => none
 | k + 1, x0, x1, x5, x10, x11 => if x11 < x10 then (if 0 ≤ (wrap64 (8 * x11)) then (if 0 ≤ (wrap64 ((wrap64 (x1 - 1)) - x11)) then (if (wrap64 ((wrap64 (x1 - 1)) - x11)) < (x5.length : Int) then (impl_big.l0 k x0 x1 (x5.set ((wrap64 ((wrap64 (x1 - 1)) - x11)) : Int).toNat ((shr .i64 x0 (wrap64 (8 * x11))) % 256)) x10 (wrap64 (x11 + 1))) else (none)) else (none)) else (none)) else (some (strOfNums x5))
def impl_big.f (k : Nat) (a0 : Int) (a1 : Int) : Option (ByteArray) := if 0 ≤ a1 then (if (a1 : Int).toNat ≤ 281474976710656 then ((some (List.replicate (a1 : Int).toNat 0 : List Int)).bind fun y195 => (impl_big.l0 k a0 a1 y195 (y195.length : Int) 0)) else (none)) else (none)
set_option maxHeartbeats 8000000 in
set_option maxRecDepth 100000 in
theorem impl_big.calls (k : Nat) (a0 : Int) (a1 : Int) (r : ByteArray) (w : World) (h : impl_big.f k a0 a1 = some r) :
  Calls Try.prog 21 #[.int .i64 a0, .int .i64 a1] w fun e w' => e = .returned (.string r) ∧ Below w.heap.size w w' := by
 have HB := Aside0.mk (Below.refl w.heap.size w)
 have H : (if 0 ≤ a1 then (if (a1 : Int).toNat ≤ 281474976710656 then ((some (List.replicate (a1 : Int).toNat 0 : List Int)).bind fun y195 => (impl_big.l0 k a0 a1 y195 (y195.length : Int) 0)) else (none)) else (none)) = some r := h
 clear h
 by_cases c3 : 0 ≤ a1
 ·rw [if_pos c3] at H
  have c3b0 := eq_true c3
  have c3b1 : decide (0 ≤ a1) = true := decide_eq_true c3
  clear c3
  by_cases c4 : (a1 : Int).toNat ≤ 281474976710656
  ·rw [if_pos c4] at H
   have c4b0 := eq_true c4
   have c4b1 : decide ((a1 : Int).toNat ≤ 281474976710656) = true := decide_eq_true c4
   clear c4
   obtain ⟨y195, hy195⟩ : ∃ y_ : List Int, y_ = (List.replicate (a1 : Int).toNat 0) := ⟨_, rfl⟩
   replace H : (impl_big.l0 k a0 a1 y195 (y195.length : Int) 0) = some r := by first | (rw [hy195]; with_reducible exact H) | (have H2_ := (Option.bind_some _ _).symm.trans H; rw [hy195]; with_reducible exact H2_) | (have H2_ := (Option.bind_some _ _).symm.trans H; with_reducible exact H2_) | with_reducible exact H | (rw [hy195]; exact H) | exact H
   have Ny195 := Aside0.mk hy195
   clear hy195
   have H' := Aside0.mk H
   clear H
   go_enter Try.func21, Try.ntmps21
   go_wp2_with (first | ((with_reducible refine gate_dst (N := 8) rfl ?_); refine Kd.R_make (Kd.int .u8) _ 5 rfl (N := 8) rfl 39 _ _ rfl a1 rfl rfl Try.underlying39 (.int .u8 0) 1 info5 rfl (by decide) (by omega) 0 (ok := fun _ => True) (okp := fun _ => True) rfl (fun _ hk => hk) trivial (of_decide_eq_true (by first | (with_reducible assumption) | assumption)) (Nat.le_trans (Nat.mul_le_mul_right _ (of_decide_eq_true (by first | (with_reducible assumption) | assumption) : a1.toNat ≤ 281474976710656)) (by omega)) (Below.refl _ _) (Nat.le_refl _) ?_; intro v196 w5 ho6 hb hg_ hnew_; clear hg_ hnew_; (first | rw [← Ny195.out] at ho6 | (simp only [Int.reduceToNat] at ho6; rw [← Ny195.out] at ho6)); have HO197 := Aside0.mk (Kd.R_lower ho6 (below_size bb_)); replace HB := bs_ hb; clear hb ho6; obtain ⟨Ao7, co7, eo7⟩ := Kd.R_slice HO197.out; subst eo7))
   go_loopg [11] k (fun kq v11 w' => ∃ (x5_1 : List Int) (x11_1 : Int), v11 = .int .i64 x11_1 ∧ Aside0 (impl_big.l0 kq a0 a1 x5_1 (y195.length : Int) x11_1 = some r) ∧ Aside0 (kq ≤ k) ∧ Aside0 (Kd.R (Kd.int .u8) 5 w' w.heap.size (fun _ => True) (.slice Ao7 y195.length co7) x5_1) ∧ Aside0 (Below w.heap.size w w'))
   case atStart => exact ⟨(y195), (0), rs_, H', ⟨Nat.le_refl _⟩, ⟨by (with_reducible repeat (first | apply Kd.R_alloc | apply Kd.R_drewN | apply Kd.R_drew)); exact HO197.out⟩, ⟨bb_⟩⟩
   case round =>
    clear H'
    try clear c2
    try clear p2
    try clear c3
    try clear c3b0
    try clear c3b1
    try clear c4
    try clear c4b0
    try clear c4b1
    obtain ⟨x5_1, x11_1, rfl, HA, HK1, HO_5, HB⟩ := hrel
    have hl5_1 := (Kd.R_reads' HO_5.out).1
    rw [hl5_1] at HO_5
    (try simp only [hl5_1])
    cases gk with
    | zero => exact absurd HA.out (by simp [impl_big.l0])
    | succ k1 =>
     have H := HA.out
     clear HA
     simp only [impl_big.l0] at H
     by_cases c8 : x11_1 < (y195.length : Int)
     ·rw [if_pos c8] at H
      have c8b0 : decide (x11_1 < (y195.length : Int)) = true := decide_eq_true c8
      (try (have c8b0z := c8b0; simp only [hl5_1] at c8b0z))
      clear c8
      obtain ⟨ji9, hji9⟩ : ∃ j_ : Int, (wrap64 (8 * x11_1)) = j_ := ⟨_, rfl⟩
      replace H : (if 0 ≤ (ji9) then (if 0 ≤ (wrap64 ((wrap64 (a1 - 1)) - x11_1)) then (if (wrap64 ((wrap64 (a1 - 1)) - x11_1)) < (x5_1.length : Int) then (impl_big.l0 k1 a0 a1 (x5_1.set ((wrap64 ((wrap64 (a1 - 1)) - x11_1)) : Int).toNat ((shr .i64 a0 (ji9)) % 256)) (y195.length : Int) (wrap64 (x11_1 + 1))) else (none)) else (none)) else (none)) = some r := by first | (rw [hji9] at H; exact H) | (simp only [hji9] at H ⊢; exact H)
      have hji9w : (IntKind.i64.wrap (8 * x11_1)) = ji9 := (i64_w _).trans hji9
      by_cases c10 : 0 ≤ (ji9)
      ·rw [if_pos c10] at H
       have c10b0 := eq_true c10
       have c10b1 : decide (0 ≤ (ji9)) = true := decide_eq_true c10
       clear c10
       obtain ⟨ji11, hji11⟩ : ∃ j_ : Int, (shr .i64 a0 (ji9)) = j_ := ⟨_, rfl⟩
       replace H : (if 0 ≤ (wrap64 ((wrap64 (a1 - 1)) - x11_1)) then (if (wrap64 ((wrap64 (a1 - 1)) - x11_1)) < (x5_1.length : Int) then (impl_big.l0 k1 a0 a1 (x5_1.set ((wrap64 ((wrap64 (a1 - 1)) - x11_1)) : Int).toNat ((ji11) % 256)) (y195.length : Int) (wrap64 (x11_1 + 1))) else (none)) else (none)) = some r := by first | (rw [hji11] at H; exact H) | (simp only [hji11] at H ⊢; exact H)
       have hji11_ : (a0 / 2 ^ min (ji9).toNat 64) = ji11 := hji11
       have hji11z : (ji9) ≤ 64 → (a0 / 2 ^ (ji9).toNat) = ji11 := shr_small hji11
       obtain ⟨ji12, hji12⟩ : ∃ j_ : Int, (wrap64 ((wrap64 (a1 - 1)) - x11_1)) = j_ := ⟨_, rfl⟩
       replace H : (if 0 ≤ (ji12) then (if (ji12) < (x5_1.length : Int) then (impl_big.l0 k1 a0 a1 (x5_1.set ((ji12) : Int).toNat ((ji11) % 256)) (y195.length : Int) (wrap64 (x11_1 + 1))) else (none)) else (none)) = some r := by first | (rw [hji12] at H; exact H) | (simp only [hji12] at H ⊢; exact H)
       have hji12w : (IntKind.i64.wrap ((wrap64 (a1 - 1)) - x11_1)) = ji12 := (i64_w _).trans hji12
       by_cases c13 : 0 ≤ (ji12)
       ·rw [if_pos c13] at H
        have c13b0 : decide (0 ≤ (ji12)) = true := decide_eq_true c13
        (try (have c13b0z := c13b0; simp only [hl5_1] at c13b0z))
        clear c13
        by_cases c14 : (ji12) < (x5_1.length : Int)
        ·rw [if_pos c14] at H
         have c14b0 : decide ((ji12) < (x5_1.length : Int)) = true := decide_eq_true c14
         (try (have c14b0z := c14b0; simp only [hl5_1] at c14b0z))
         clear c14
         obtain ⟨y198, hy198⟩ : ∃ y_ : List Int, y_ = (x5_1.set ((ji12) : Int).toNat ((ji11) % 256)) := ⟨_, rfl⟩
         replace H : (impl_big.l0 k1 a0 a1 y198 (y195.length : Int) (wrap64 (x11_1 + 1))) = some r := by first | (rw [hy198]; with_reducible exact H) | (have H2_ := (Option.bind_some _ _).symm.trans H; rw [hy198]; with_reducible exact H2_) | (have H2_ := (Option.bind_some _ _).symm.trans H; with_reducible exact H2_) | with_reducible exact H | (rw [hy198]; exact H) | exact H
         have Ny198 := Aside0.mk hy198
         clear hy198
         have H' := Aside0.mk H
         clear H
         have p15 : 0 ≤ ((ji12) : Int) := of_decide_eq_true (by first | (with_reducible assumption) | assumption)
         have q15 : ((ji12) : Int) < ((x5_1.length : Int) : Int) := of_decide_eq_true (by first | (with_reducible assumption) | assumption)
         obtain ⟨go15, co15, eo15, gb15, gl15, cl15, HG15⟩ := Kd.R_form HO_5.out (by omega)
         (first | cases eo15 | (injection eo15 with ea_ en_ ec_; (first | subst ea_ | (injection ea_ with ea_; subst ea_)); subst ec_; clear en_))
         have GB15 := Aside0.mk gb15
         have GG15 := Aside0.mk HG15
         clear gb15 gl15 HG15
         obtain ⟨hx15_0, hf15_0⟩ := Kd.R_celln 0 HO_5.out ((ji12) : Int) p15 q15
         replace p15 := eq_true p15
         replace q15 := eq_true q15
         have HP16 := Kd.R_putg HO_5.out ((ji12) : Int) ((ji11) % 256)
         go_wp2_with (first | ((with_reducible refine gate_store (t := 5) (p := 24) rfl ?_); refine store_event (t := 5) (p := 24) (v := ?vo_w17) (w1 := (wr.setCell ⟨go15, ((ji12) : Int).toNat, none⟩ (.int .u8 ((ji11) % 256)))) ?hg ?ho ?hn ?hr ?_; (case ho => rfl); (case hg => rfl); (case hn => rfl); (case hr => first | (go_simp; done) | (go_simp; rfl)); intro w17 hw; have hg : wr.grownBy w17 (some go15) := (by rw [hw]; exact HP16.2); have hp_ : Kd.R (Kd.int .u8) 5 w17 w.heap.size (fun _ => True) (.slice (some ⟨go15, 0, none⟩) x5_1.length co7) y198 := (by rw [hw, Ny198.out]; exact HP16.1); clear HP16; replace HO_5 := Aside0.mk (hp_); replace HB := Aside0.mk ((by rw [hw]; exact below_set (HB.out) GB15.out : Below w.heap.size w w17)); clear hg hw hp_))
         (try simp only [← hl5_1])
         go_roundg k1
         case measure => have := HK1.out; omega
         case rel => exact ⟨(y198), (wrap64 (x11_1 + 1)), rs_, H', ⟨by have := HK1.out; omega⟩, ⟨by (try simp only [hl5_1]); (with_reducible repeat (first | apply Kd.R_alloc | apply Kd.R_drewN | apply Kd.R_drew)); exact HO_5.out⟩, ⟨bb_⟩⟩
        ·rw [if_neg c14] at H
         exact absurd H (by simp)
       ·rw [if_neg c13] at H
        exact absurd H (by simp)
      ·rw [if_neg c10] at H
       exact absurd H (by simp)
     ·rw [if_neg c8] at H
      have c8b0 : decide (x11_1 < (y195.length : Int)) = false := decide_eq_false c8
      (try (have c8b0z := c8b0; simp only [hl5_1] at c8b0z))
      clear c8
      obtain rfl := Option.some.inj H
      have hcv18 := own_string (P := Try.prog) Try.underlying39 Try.underlying5 Try.underlying9 (Kd.own_of_R HO_5.out)
      go_wp2
      go_ret
      exact ⟨er_, bb_⟩
  ·rw [if_neg c4] at H
   exact absurd H (by simp)
 ·rw [if_neg c3] at H
  exact absurd H (by simp)

/-! ### impl_PutValue: function 22 -/
def impl_PutValue.f (k : Nat) (a0_0 : Int) (a0_1 : Int) (a0_2 : ByteArray) : Option (ByteArray) := (impl_ValueOk.f a0_0 a0_1 a0_2).bind fun t200 => (if t200 = true then ((impl_big.f k a0_0 1).bind fun t201 => (if a0_0 = 1 then ((impl_big.f k a0_1 8).bind fun t202 => (if t201.size + t202.size ≤ 9223372036854775807 then (some (t201 ++ t202)) else (none))) else (if a0_0 = 2 then ((impl_big.f k a0_1 1).bind fun t203 => (if t201.size + t203.size ≤ 9223372036854775807 then (some (t201 ++ t203)) else (none))) else (if a0_0 = 3 then ((impl_big.f k (a0_2.size : Int) 1).bind fun t204 => (if t201.size + t204.size ≤ 9223372036854775807 then (if (t201 ++ t204).size + a0_2.size ≤ 9223372036854775807 then (some ((t201 ++ t204) ++ a0_2)) else (none)) else (none))) else (some t201))))) else (some (⟨#[]⟩ : ByteArray)))
def impl_PutValue.T10 : Bool × List (List Nat × List Nat) := (true, [([], []), ([], []), ([1], [1]), ([2], [2]), ([3], [3]), ([0, 4], [0, 4]), ([], []), ([6], [6]), ([5, 7], [5, 7]), ([8, 4, 0, 1, 2, 3, 4, 5, 6, 7, 8], [8])])
def impl_PutValue.B10 : List Nat := [0, 0, 2, 6, 14, 31, 0, 64, 255, 511]
theorem impl_PutValue.tab10 : rtab .any (opsOf Try.f22 10) = impl_PutValue.T10 := by kernel_rfl
theorem impl_PutValue.bits10 : waitsOk impl_PutValue.T10.2 impl_PutValue.B10 = true := by kernel_rfl
set_option maxHeartbeats 8000000 in
set_option maxRecDepth 100000 in
theorem impl_PutValue.calls (k : Nat) (a0_0 : Int) (a0_1 : Int) (a0_2 : ByteArray) (r : ByteArray) (w : World) (h : impl_PutValue.f k a0_0 a0_1 a0_2 = some r) :
  Calls Try.prog 22 #[.agg #[.int .i64 a0_0, .int .i64 a0_1, .string a0_2]] w fun e w' => e = .returned (.string r) ∧ Below w.heap.size w w' := by
 have hu42 := Try.underlying42
 have HB := Aside0.mk (Below.refl w.heap.size w)
 have H : ((impl_ValueOk.f a0_0 a0_1 a0_2).bind fun t200 => (if t200 = true then ((impl_big.f k a0_0 1).bind fun t201 => (if a0_0 = 1 then ((impl_big.f k a0_1 8).bind fun t202 => (if t201.size + t202.size ≤ 9223372036854775807 then (some (t201 ++ t202)) else (none))) else (if a0_0 = 2 then ((impl_big.f k a0_1 1).bind fun t203 => (if t201.size + t203.size ≤ 9223372036854775807 then (some (t201 ++ t203)) else (none))) else (if a0_0 = 3 then ((impl_big.f k (a0_2.size : Int) 1).bind fun t204 => (if t201.size + t204.size ≤ 9223372036854775807 then (if (t201 ++ t204).size + a0_2.size ≤ 9223372036854775807 then (some ((t201 ++ t204) ++ a0_2)) else (none)) else (none))) else (some t201))))) else (some (⟨#[]⟩ : ByteArray)))) = some r := h
 clear h
 replace H := Option.bind_eq_some_iff.mp H
 obtain ⟨t200, A20, H⟩ := H
 replace H : (if t200 = true then ((impl_big.f k a0_0 1).bind fun t201 => (if a0_0 = 1 then ((impl_big.f k a0_1 8).bind fun t202 => (if t201.size + t202.size ≤ 9223372036854775807 then (some (t201 ++ t202)) else (none))) else (if a0_0 = 2 then ((impl_big.f k a0_1 1).bind fun t203 => (if t201.size + t203.size ≤ 9223372036854775807 then (some (t201 ++ t203)) else (none))) else (if a0_0 = 3 then ((impl_big.f k (a0_2.size : Int) 1).bind fun t204 => (if t201.size + t204.size ≤ 9223372036854775807 then (if (t201 ++ t204).size + a0_2.size ≤ 9223372036854775807 then (some ((t201 ++ t204) ++ a0_2)) else (none)) else (none))) else (some t201))))) else (some (⟨#[]⟩ : ByteArray))) = some r := H
 have A2 := Aside0.mk A20
 clear A20
 by_cases c3 : t200 = true
 ·subst c3
  have H1 : ((impl_big.f k a0_0 1).bind fun t201 => (if a0_0 = 1 then ((impl_big.f k a0_1 8).bind fun t202 => (if t201.size + t202.size ≤ 9223372036854775807 then (some (t201 ++ t202)) else (none))) else (if a0_0 = 2 then ((impl_big.f k a0_1 1).bind fun t203 => (if t201.size + t203.size ≤ 9223372036854775807 then (some (t201 ++ t203)) else (none))) else (if a0_0 = 3 then ((impl_big.f k (a0_2.size : Int) 1).bind fun t204 => (if t201.size + t204.size ≤ 9223372036854775807 then (if (t201 ++ t204).size + a0_2.size ≤ 9223372036854775807 then (some ((t201 ++ t204) ++ a0_2)) else (none)) else (none))) else (some t201))))) = some r := by rw [if_pos rfl] at H; exact H
  clear H
  have H := H1
  clear H1
  replace H := Option.bind_eq_some_iff.mp H
  obtain ⟨t201, A40, H⟩ := H
  replace H : (if a0_0 = 1 then ((impl_big.f k a0_1 8).bind fun t202 => (if t201.size + t202.size ≤ 9223372036854775807 then (some (t201 ++ t202)) else (none))) else (if a0_0 = 2 then ((impl_big.f k a0_1 1).bind fun t203 => (if t201.size + t203.size ≤ 9223372036854775807 then (some (t201 ++ t203)) else (none))) else (if a0_0 = 3 then ((impl_big.f k (a0_2.size : Int) 1).bind fun t204 => (if t201.size + t204.size ≤ 9223372036854775807 then (if (t201 ++ t204).size + a0_2.size ≤ 9223372036854775807 then (some ((t201 ++ t204) ++ a0_2)) else (none)) else (none))) else (some t201)))) = some r := H
  have A4 := Aside0.mk A40
  clear A40
  by_cases c5 : a0_0 = 1
  ·rw [if_pos c5] at H
   have c5b0 : (a0_0 == 1) = true := beq_iff_eq.mpr c5
   have c5b1 : (a0_0 != 1) = false := bne_eq_false_iff_eq.mpr c5
   clear c5
   replace H := Option.bind_eq_some_iff.mp H
   obtain ⟨t202, A60, H⟩ := H
   replace H : (if t201.size + t202.size ≤ 9223372036854775807 then (some (t201 ++ t202)) else (none)) = some r := H
   have A6 := Aside0.mk A60
   clear A60
   by_cases c7 : t201.size + t202.size ≤ 9223372036854775807
   ·rw [if_pos c7] at H
    have c7b0 := eq_true c7
    have c7b1 : decide (t201.size + t202.size ≤ 9223372036854775807) = true := decide_eq_true c7
    try have c7b2 : (9223372036854775807 < t201.size + t202.size) = False := eq_false (Nat.not_lt.2 c7)
    obtain rfl := Option.some.inj H
    go_enter Try.func22, Try.ntmps22
    go_wp2_with (first | ((with_reducible refine gate_dst (N := 1) rfl ?_); refine bx_ 1 #[.int .i64 a0_0, .int .i64 a0_1, .string a0_2] 42 ?_; intro gb199 hg w8 hbox hb; have BK199 := Aside0.mk (hbox); have GW199 := gw_ hg; have GE199 := gw_ hg; replace HB := bs_ hb; clear hb hbox hg; obtain ⟨hcz9_0, hcz9_1, hcz9_2, hfz9_0, hfz9_1, hfz9_2⟩ := b3_ BK199) | ((with_reducible refine gate_callee (f := 41) rfl ?_); refine gsL_ (some 5) Try.func41 #[.agg #[.int .i64 a0_0, .int .i64 a0_1, .string a0_2]] ?_; (with_reducible refine (impl_ValueOk.calls a0_0 a0_1 a0_2 true _ A2.out).mono ?_); rintro e w10 ⟨rfl, hb⟩; refine ⟨_, rfl, ?_⟩; replace BK199 := bkb_ BK199 hb; replace HB := bs_ hb; (try clear hb); (try clear hb2); (try clear hk); (try clear hi); obtain ⟨hcz11_0, hcz11_1, hcz11_2, hfz11_0, hfz11_1, hfz11_2⟩ := b3_ BK199) | ((with_reducible refine gate_callee (f := 21) rfl ?_); refine gsL_ (some 9) Try.func21 #[.int .i64 a0_0, .int .i64 1] ?_; (with_reducible refine (impl_big.calls k a0_0 1 t201 _ A4.out).mono ?_); rintro e w12 ⟨rfl, hb⟩; refine ⟨_, rfl, ?_⟩; replace BK199 := bkb_ BK199 hb; replace HB := bs_ hb; (try clear hb); (try clear hb2); (try clear hk); (try clear hi); obtain ⟨hcz13_0, hcz13_1, hcz13_2, hfz13_0, hfz13_1, hfz13_2⟩ := b3_ BK199) | ((with_reducible refine gate_callee (f := 21) rfl ?_); refine gsL_ (some 17) Try.func21 #[.int .i64 a0_1, .int .i64 8] ?_; (with_reducible refine (impl_big.calls k a0_1 8 t202 _ A6.out).mono ?_); rintro e w14 ⟨rfl, hb⟩; refine ⟨_, rfl, ?_⟩; replace BK199 := bkb_ BK199 hb; replace HB := bs_ hb; (try clear hb); (try clear hb2); (try clear hk); (try clear hi)))
    go_ret
    exact ⟨er_, bb_⟩
   ·rw [if_neg c7] at H
    exact absurd H (by simp)
  ·rw [if_neg c5] at H
   have c5b0 : (a0_0 == 1) = false := beq_eq_false_iff_ne.mpr c5
   have c5b1 : (a0_0 != 1) = true := bne_iff_ne.mpr c5
   by_cases c15 : a0_0 = 2
   ·rw [if_pos c15] at H
    have c15b0 : (a0_0 == 2) = true := beq_iff_eq.mpr c15
    have c15b1 : (a0_0 != 2) = false := bne_eq_false_iff_eq.mpr c15
    clear c15
    replace H := Option.bind_eq_some_iff.mp H
    obtain ⟨t203, A160, H⟩ := H
    replace H : (if t201.size + t203.size ≤ 9223372036854775807 then (some (t201 ++ t203)) else (none)) = some r := H
    have A16 := Aside0.mk A160
    clear A160
    by_cases c17 : t201.size + t203.size ≤ 9223372036854775807
    ·rw [if_pos c17] at H
     have c17b0 := eq_true c17
     have c17b1 : decide (t201.size + t203.size ≤ 9223372036854775807) = true := decide_eq_true c17
     try have c17b2 : (9223372036854775807 < t201.size + t203.size) = False := eq_false (Nat.not_lt.2 c17)
     obtain rfl := Option.some.inj H
     go_enter Try.func22, Try.ntmps22
     go_wp2_with (first | ((with_reducible refine gate_dst (N := 1) rfl ?_); refine bx_ 1 #[.int .i64 a0_0, .int .i64 a0_1, .string a0_2] 42 ?_; intro gb199 hg w18 hbox hb; have BK199 := Aside0.mk (hbox); have GW199 := gw_ hg; have GE199 := gw_ hg; replace HB := bs_ hb; clear hb hbox hg; obtain ⟨hcz19_0, hcz19_1, hcz19_2, hfz19_0, hfz19_1, hfz19_2⟩ := b3_ BK199) | ((with_reducible refine gate_callee (f := 41) rfl ?_); refine gsL_ (some 5) Try.func41 #[.agg #[.int .i64 a0_0, .int .i64 a0_1, .string a0_2]] ?_; (with_reducible refine (impl_ValueOk.calls a0_0 a0_1 a0_2 true _ A2.out).mono ?_); rintro e w20 ⟨rfl, hb⟩; refine ⟨_, rfl, ?_⟩; replace BK199 := bkb_ BK199 hb; replace HB := bs_ hb; (try clear hb); (try clear hb2); (try clear hk); (try clear hi); obtain ⟨hcz21_0, hcz21_1, hcz21_2, hfz21_0, hfz21_1, hfz21_2⟩ := b3_ BK199) | ((with_reducible refine gate_callee (f := 21) rfl ?_); refine gsL_ (some 9) Try.func21 #[.int .i64 a0_0, .int .i64 1] ?_; (with_reducible refine (impl_big.calls k a0_0 1 t201 _ A4.out).mono ?_); rintro e w22 ⟨rfl, hb⟩; refine ⟨_, rfl, ?_⟩; replace BK199 := bkb_ BK199 hb; replace HB := bs_ hb; (try clear hb); (try clear hb2); (try clear hk); (try clear hi); obtain ⟨hcz23_0, hcz23_1, hcz23_2, hfz23_0, hfz23_1, hfz23_2⟩ := b3_ BK199) | ((with_reducible refine gate_callee (f := 21) rfl ?_); refine gsL_ (some 24) Try.func21 #[.int .i64 a0_1, .int .i64 1] ?_; (with_reducible refine (impl_big.calls k a0_1 1 t203 _ A16.out).mono ?_); rintro e w24 ⟨rfl, hb⟩; refine ⟨_, rfl, ?_⟩; replace BK199 := bkb_ BK199 hb; replace HB := bs_ hb; (try clear hb); (try clear hb2); (try clear hk); (try clear hi)))
     go_ret
     exact ⟨er_, bb_⟩
    ·rw [if_neg c17] at H
     exact absurd H (by simp)
   ·rw [if_neg c15] at H
    have c15b0 : (a0_0 == 2) = false := beq_eq_false_iff_ne.mpr c15
    have c15b1 : (a0_0 != 2) = true := bne_iff_ne.mpr c15
    by_cases c25 : a0_0 = 3
    ·rw [if_pos c25] at H
     have c25b0 : (a0_0 == 3) = true := beq_iff_eq.mpr c25
     have c25b1 : (a0_0 != 3) = false := bne_eq_false_iff_eq.mpr c25
     clear c25
     replace H := Option.bind_eq_some_iff.mp H
     obtain ⟨t204, A260, H⟩ := H
     replace H : (if t201.size + t204.size ≤ 9223372036854775807 then (if (t201 ++ t204).size + a0_2.size ≤ 9223372036854775807 then (some ((t201 ++ t204) ++ a0_2)) else (none)) else (none)) = some r := H
     have A26 := Aside0.mk A260
     clear A260
     by_cases c27 : t201.size + t204.size ≤ 9223372036854775807
     ·rw [if_pos c27] at H
      have c27b0 := eq_true c27
      have c27b1 : decide (t201.size + t204.size ≤ 9223372036854775807) = true := decide_eq_true c27
      try have c27b2 : (9223372036854775807 < t201.size + t204.size) = False := eq_false (Nat.not_lt.2 c27)
      by_cases c28 : (t201 ++ t204).size + a0_2.size ≤ 9223372036854775807
      ·rw [if_pos c28] at H
       have c28b0 := eq_true c28
       have c28b1 : decide ((t201 ++ t204).size + a0_2.size ≤ 9223372036854775807) = true := decide_eq_true c28
       try have c28b2 : (9223372036854775807 < (t201 ++ t204).size + a0_2.size) = False := eq_false (Nat.not_lt.2 c28)
       (try (have c28b0z := c28b0; simp only [ByteArray.size_append] at c28b0z))
       (try (have c28b1z := c28b1; simp only [ByteArray.size_append] at c28b1z))
       (try (have c28b2z := c28b2; simp only [ByteArray.size_append] at c28b2z))
       (try (have c28b2y : (9223372036854775807 < t201.size + t204.size + a0_2.size) = False := by (apply eq_false; have hq_ := c28; simp only [ByteArray.size_append, ByteArray.size_extract] at hq_; omega)))
       obtain rfl := Option.some.inj H
       go_enter Try.func22, Try.ntmps22
       try go_wp2_with (first | ((with_reducible refine gate_dst (N := 1) rfl ?_); refine bx_ 1 #[.int .i64 a0_0, .int .i64 a0_1, .string a0_2] 42 ?_; intro gb199 hg w29 hbox hb; have BK199 := Aside0.mk (hbox); have GW199 := gw_ hg; have GE199 := gw_ hg; replace HB := bs_ hb; clear hb hbox hg; obtain ⟨hcz30_0, hcz30_1, hcz30_2, hfz30_0, hfz30_1, hfz30_2⟩ := b3_ BK199) | ((with_reducible refine gate_callee (f := 41) rfl ?_); refine gsL_ (some 5) Try.func41 #[.agg #[.int .i64 a0_0, .int .i64 a0_1, .string a0_2]] ?_; (with_reducible refine (impl_ValueOk.calls a0_0 a0_1 a0_2 true _ A2.out).mono ?_); rintro e w31 ⟨rfl, hb⟩; refine ⟨_, rfl, ?_⟩; replace BK199 := bkb_ BK199 hb; replace HB := bs_ hb; (try clear hb); (try clear hb2); (try clear hk); (try clear hi); obtain ⟨hcz32_0, hcz32_1, hcz32_2, hfz32_0, hfz32_1, hfz32_2⟩ := b3_ BK199) | ((with_reducible refine gate_callee (f := 21) rfl ?_); refine gsL_ (some 9) Try.func21 #[.int .i64 a0_0, .int .i64 1] ?_; (with_reducible refine (impl_big.calls k a0_0 1 t201 _ A4.out).mono ?_); rintro e w33 ⟨rfl, hb⟩; refine ⟨_, rfl, ?_⟩; replace BK199 := bkb_ BK199 hb; replace HB := bs_ hb; (try clear hb); (try clear hb2); (try clear hk); (try clear hi); obtain ⟨hcz34_0, hcz34_1, hcz34_2, hfz34_0, hfz34_1, hfz34_2⟩ := b3_ BK199))
       replace BK199 := Aside0.mk (blk_drew BK199.out)
       replace HB := Aside0.mk (below_drew1 HB.out)
       refine start_ (n := 10) (S := fun w' => w'.cell? ⟨gb199, 0, none⟩ = some (.int .i64 a0_0) ∧ w'.cell? ⟨gb199, 1, none⟩ = some (.int .i64 a0_1) ∧ w'.cell? ⟨gb199, 2, none⟩ = some (.string a0_2)) (ds := []) (tf 0 10) (by kernel_rfl) rfl rfl ⟨bc_ BK199 0, bc_ BK199 1, bc_ BK199 2⟩ (fun hHeld => ?_); refine with_tabW impl_PutValue.tab10 impl_PutValue.bits10 (fun HT_ HW_ => ?_)
       generalize w33.drew = w35 at BK199 HB hHeld ⊢
       iterate 2 (refine pl_ ?_)
       refine plx_ 6 #[true, true, false, false, false, false, true, false, false, false] ?_
       refine tlx_ 2 #[true, true, true, false, false, false, true, false, false, false] ?_
       refine plx_ 3 #[true, true, true, true, false, false, true, false, false, false] ?_
       refine tlx_ 7 #[true, true, true, true, false, false, true, true, false, false] ?_
       refine one_ (i := 4) (N := some 32) #[true, true, true, true, true, false, true, true, false, false] rfl rfl (one_of HT_.out (by kernel_rfl)) (by decide) (fun K hK => ?_)
       refine gs_ Try.func21 #[.int .i64 (a0_2.size : Int), .int .i64 1] ?_
       with_reducible refine (impl_big.calls k (a0_2.size : Int) 1 t204 _ A26.out).mono ?_
       rintro e w36 ⟨rfl, hb⟩
       refine ⟨_, rfl, ?_⟩
       replace BK199 := bkb_ BK199 hb
       replace HB := bs_ hb
       (try clear hb)
       (try clear hb2)
       (try clear hk)
       (try clear hi)
       refine hK.out _ _ ⟨bc_ BK199 0, bc_ BK199 1, bc_ BK199 2⟩ (fun hHeld => ?_)
       clear hK K
       refine nm_ ?_
       refine plx_ 5 (tf 8 2) ?_
       iterate 2 (refine pl_ ?_)
       refine done_ (done_of HT_.out (by kernel_rfl)) ?_
       try go_wp2
       go_ret
       exact ⟨er_, bb_⟩
      ·rw [if_neg c28] at H
       exact absurd H (by simp)
     ·rw [if_neg c27] at H
      exact absurd H (by simp)
    ·rw [if_neg c25] at H
     have c25b0 : (a0_0 == 3) = false := beq_eq_false_iff_ne.mpr c25
     have c25b1 : (a0_0 != 3) = true := bne_iff_ne.mpr c25
     obtain rfl := Option.some.inj H
     go_enter Try.func22, Try.ntmps22
     go_wp2_with (first | ((with_reducible refine gate_dst (N := 1) rfl ?_); refine bx_ 1 #[.int .i64 a0_0, .int .i64 a0_1, .string a0_2] 42 ?_; intro gb199 hg w37 hbox hb; have BK199 := Aside0.mk (hbox); have GW199 := gw_ hg; have GE199 := gw_ hg; replace HB := bs_ hb; clear hb hbox hg; obtain ⟨hcz38_0, hcz38_1, hcz38_2, hfz38_0, hfz38_1, hfz38_2⟩ := b3_ BK199) | ((with_reducible refine gate_callee (f := 41) rfl ?_); refine gsL_ (some 5) Try.func41 #[.agg #[.int .i64 a0_0, .int .i64 a0_1, .string a0_2]] ?_; (with_reducible refine (impl_ValueOk.calls a0_0 a0_1 a0_2 true _ A2.out).mono ?_); rintro e w39 ⟨rfl, hb⟩; refine ⟨_, rfl, ?_⟩; replace BK199 := bkb_ BK199 hb; replace HB := bs_ hb; (try clear hb); (try clear hb2); (try clear hk); (try clear hi); obtain ⟨hcz40_0, hcz40_1, hcz40_2, hfz40_0, hfz40_1, hfz40_2⟩ := b3_ BK199) | ((with_reducible refine gate_callee (f := 21) rfl ?_); refine gsL_ (some 9) Try.func21 #[.int .i64 a0_0, .int .i64 1] ?_; (with_reducible refine (impl_big.calls k a0_0 1 t201 _ A4.out).mono ?_); rintro e w41 ⟨rfl, hb⟩; refine ⟨_, rfl, ?_⟩; replace BK199 := bkb_ BK199 hb; replace HB := bs_ hb; (try clear hb); (try clear hb2); (try clear hk); (try clear hi); obtain ⟨hcz42_0, hcz42_1, hcz42_2, hfz42_0, hfz42_1, hfz42_2⟩ := b3_ BK199))
     go_ret
     exact ⟨er_, bb_⟩
 ·replace c3 := Bool.eq_false_iff.mpr c3
  subst c3
  have H1 : (some (⟨#[]⟩ : ByteArray)) = some r := by rw [if_neg (show ¬ (false = true) by decide)] at H; exact H
  clear H
  have H := H1
  clear H1
  obtain rfl := Option.some.inj H
  go_enter Try.func22, Try.ntmps22
  go_wp2_with (first | ((with_reducible refine gate_dst (N := 1) rfl ?_); refine bx_ 1 #[.int .i64 a0_0, .int .i64 a0_1, .string a0_2] 42 ?_; intro gb199 hg w43 hbox hb; have BK199 := Aside0.mk (hbox); have GW199 := gw_ hg; have GE199 := gw_ hg; replace HB := bs_ hb; clear hb hbox hg; obtain ⟨hcz44_0, hcz44_1, hcz44_2, hfz44_0, hfz44_1, hfz44_2⟩ := b3_ BK199) | ((with_reducible refine gate_callee (f := 41) rfl ?_); refine gsL_ (some 5) Try.func41 #[.agg #[.int .i64 a0_0, .int .i64 a0_1, .string a0_2]] ?_; (with_reducible refine (impl_ValueOk.calls a0_0 a0_1 a0_2 false _ A2.out).mono ?_); rintro e w45 ⟨rfl, hb⟩; refine ⟨_, rfl, ?_⟩; replace BK199 := bkb_ BK199 hb; replace HB := bs_ hb; (try clear hb); (try clear hb2); (try clear hk); (try clear hi)))
  go_ret
  exact ⟨er_, bb_⟩

/-! ### impl_number: function 23 -/
def impl_number.f (a0 : Int) : Option (Int × Int × ByteArray) := some (1, a0, (⟨#[]⟩ : ByteArray))
set_option maxHeartbeats 8000000 in
set_option maxRecDepth 100000 in
theorem impl_number.calls (a0 : Int) (r1 : Int) (r2 : Int) (r3 : ByteArray) (w : World) (h : impl_number.f a0 = some (r1, r2, r3)) :
  Calls Try.prog 23 #[.int .i64 a0] w fun e w' => e = .returned (.agg #[.int .i64 r1, .int .i64 r2, .string r3]) ∧ Below w.heap.size w w' := by
 have hu42 := Try.underlying42
 have HB := Aside0.mk (Below.refl w.heap.size w)
 have H : (some (1, a0, (⟨#[]⟩ : ByteArray))) = some (r1, r2, r3) := h
 clear h
 simp only [Option.some.injEq, Prod.mk.injEq] at H
 obtain ⟨rfl, rfl, rfl⟩ := H
 go_enter Try.func23, Try.ntmps23
 go_wp2_with (first | ((with_reducible refine gate_dst (N := 2) rfl ?_); refine bx_ 2 #[.int .i64 0, .int .i64 0, .string (⟨#[]⟩ : ByteArray)] 42 ?_; intro gb205 hg w2 hbox hb; have BK205 := Aside0.mk (hbox); have GW205 := gw_ hg; have GE205 := gw_ hg; replace HB := bs_ hb; clear hb hbox hg; obtain ⟨hcz3_0, hcz3_1, hcz3_2, hfz3_0, hfz3_1, hfz3_2⟩ := b3_ BK205))
 refine bodyPost_ret (results_cell_row rfl _ _ gb205 42 #[.int .i64 1, .int .i64 a0, .string (⟨#[]⟩ : ByteArray)] (0, 0) _ rfl (bp3_ (bkx_ BK205.out)) Try.underlying42 rfl (by kernel_rfl)) rfl ?_
 exact ⟨er_, bb_⟩

-- NOT PRINTED: function 24 (strings_Builder_String)

/-! ### impl_PutBag: function 8 -/
-- by hand
mutual
def impl_PutBag.l0 : Nat → ByteArray → List (S46) → Int → Int → Option (ByteArray)
 | 0, _, _, _, _ => none
 | k + 1, x3, x16, x17, x18 => if x18 < x17 then (if 0 ≤ x18 then (if x18 < (x16.length : Int) then ((impl_number.f ((rd_T46 x16 x18).f1)).bind fun bt231 => ((impl_PutValue.f k bt231.1 bt231.2.1 bt231.2.2).bind fun t234 => (if x3.size + t234.size ≤ 140737488355328 then (impl_PutBag.l1 k (x3 ++ t234) x16 x17 x18 ((rd_T46 x16 x18).f0) (((rd_T46 x16 x18).f0).length : Int) 0) else (none)))) else (none)) else (none)) else (some x3)
def impl_PutBag.l1 : Nat → ByteArray → List (S46) → Int → Int → List (S42) → Int → Int → Option (ByteArray)
 | 0, _, _, _, _, _, _, _ => none
 | k + 1, x3, x16, x17, x18, x28, x29, x30 => if x30 < x29 then (if 0 ≤ x30 then (if x30 < (x28.length : Int) then ((impl_PutValue.f k ((rd_T42 x28 x30).f0) ((rd_T42 x28 x30).f1) ((rd_T42 x28 x30).f2)).bind fun t237 => (if x3.size + t237.size ≤ 140737488355328 then (impl_PutBag.l1 k (x3 ++ t237) x16 x17 x18 x28 x29 (wrap64 (x30 + 1))) else (none))) else (none)) else (none)) else (impl_PutBag.l0 k x3 x16 x17 (wrap64 (x18 + 1)))
end
def impl_PutBag.f (k : Nat) (a0_0 : Int) (l0_1 : List (S46)) : Option (ByteArray) := (impl_BagOk.f k a0_0 l0_1).bind fun t227 => (if t227 = true then ((impl_big.f k a0_0 1).bind fun t228 => (if 0 + t228.size ≤ 140737488355328 then (impl_PutBag.l0 k ((⟨#[]⟩ : ByteArray) ++ t228) l0_1 (l0_1.length : Int) 0) else (none))) else (some (⟨#[]⟩ : ByteArray)))
theorem isB_below {T e : TypeId} {B b : Nat} {bs : List Value} {W W' : World} (h : Lib.IsBuilderF T e B b bs W) (hb : Below W.heap.size W W') : Lib.IsBuilderF T e B b bs W' := by
 have one : ∀ p, Lib.BuilderAtF T e B b p bs W → Lib.BuilderAtF T e B b p bs W' := fun p h => by
  have hlt := h.lt
  obtain ⟨hB, v, hv, hown, hne⟩ := h
  exact ⟨hB, v, (hb.block b hlt).trans hv, hown.kept (row := none) ⟨hb.os, hb.tape, hb.output, hb.size, fun k hk _ => hb.block k hk⟩ (Classical.em _), hne⟩
 exact h.elim (fun x => .inl (one _ x)) (fun x => .inr (one _ x))
theorem isB_new {T e : TypeId} {b : Nat} {W : World} (h : W.heap[b]? = some (.cells #[.pointer none, .slice none 0 0] T (0, 0))) : Lib.IsBuilderF T e b b [] W :=
 Lib.IsBuilderF.of (Or.inl ⟨Nat.le_refl _, .slice none 0 0, h, World.ownsRow_nil _ _ _ _, by simp [Value.ownBlock]⟩)
theorem isB_lt {T e : TypeId} {B b : Nat} {bs : List Value} {W : World} (h : Lib.IsBuilderF T e B b bs W) : b < W.heap.size := h.elim (fun x => x.lt) (fun x => x.lt)
theorem isB_more {T e : TypeId} {B b : Nat} {x s : ByteArray} {W : World} (h : Lib.BuilderAtF T e B b (.pointer (some ⟨b, 0, none⟩)) (Lib.byteCells x.data.toList ++ Lib.strCells s) W) : Lib.IsBuilderF T e B b (Lib.byteCells (x ++ s).data.toList) W := by
 rw [ByteArray.data_append, Array.toList_append, Lib.byteCells_append, ← Lib.strCells_eq s]
 exact Or.inr h
theorem isB_keep {T e t : TypeId} {B b g : Nat} {bs : List Value} {cs : Array Value} {W W' : World} (h : Lib.IsBuilderF T e B b bs W) (hk : Lib.OthersKept e (some b) W W') (hg : W.heap[g]? = some (.cells cs t (0, 0))) (h1 : t ≠ T) (h2 : t ≠ e) : W'.heap[g]? = some (.cells cs t (0, 0)) := by
 refine hk g _ hg (fun q => ?_) (fun c fz q => ?_)
 · injection q with q
   subst q
   have one : ∀ p, ¬ Lib.BuilderAtF T e B g p bs W := fun p h => by
    obtain ⟨_, v, hv, _⟩ := h
    rw [hv] at hg
    simp only [Option.some.injEq, Obj.cells.injEq] at hg
    exact h1 hg.2.1.symm
   exact h.elim (one _) (one _)
 · simp only [Obj.cells.injEq] at q
   exact h2 q.2.1
set_option maxHeartbeats 8000000 in
set_option maxRecDepth 100000 in
theorem impl_PutBag.calls (k : Nat) (a0_0 : Int) (A0_1 : Option Addr) (c0_1 : Nat) (l0_1 : List (S46)) (r : ByteArray) (w : World) (hr0_1 : Kd.C k46 w A0_1 l0_1.length l0_1) (hc0_1 : l0_1.length ≤ c0_1) (h : impl_PutBag.f k a0_0 l0_1 = some r) :
  Calls Try.prog 8 #[.agg #[.int .i64 a0_0, .slice A0_1 l0_1.length c0_1]] w fun e w' => e = .returned (.string r) ∧ Below w.heap.size w w' := by
 have hu29 := Try.underlying29
 have hu46 := Try.underlying46
 have hu42 := Try.underlying42
 have HR0_1 := Aside0.mk hr0_1
 have HC0_1 := Aside0.mk hc0_1
 clear hr0_1 hc0_1
 have HB := Aside0.mk (Below.refl w.heap.size w)
 have H : ((impl_BagOk.f k a0_0 l0_1).bind fun t227 => (if t227 = true then ((impl_big.f k a0_0 1).bind fun t228 => (if 0 + t228.size ≤ 140737488355328 then (impl_PutBag.l0 k ((⟨#[]⟩ : ByteArray) ++ t228) l0_1 (l0_1.length : Int) 0) else (none))) else (some (⟨#[]⟩ : ByteArray)))) = some r := h
 clear h
 replace H := Option.bind_eq_some_iff.mp H
 obtain ⟨t227, A20, H⟩ := H
 replace H : (if t227 = true then ((impl_big.f k a0_0 1).bind fun t228 => (if 0 + t228.size ≤ 140737488355328 then (impl_PutBag.l0 k ((⟨#[]⟩ : ByteArray) ++ t228) l0_1 (l0_1.length : Int) 0) else (none))) else (some (⟨#[]⟩ : ByteArray))) = some r := H
 have A2 := Aside0.mk A20
 clear A20
 by_cases c3 : t227 = true
 ·subst c3
  have H1 : ((impl_big.f k a0_0 1).bind fun t228 => (if 0 + t228.size ≤ 140737488355328 then (impl_PutBag.l0 k ((⟨#[]⟩ : ByteArray) ++ t228) l0_1 (l0_1.length : Int) 0) else (none))) = some r := by rw [if_pos rfl] at H; exact H
  clear H
  have H := H1
  clear H1
  replace H := Option.bind_eq_some_iff.mp H
  obtain ⟨t228, A40, H⟩ := H
  replace H : (if 0 + t228.size ≤ 140737488355328 then (impl_PutBag.l0 k ((⟨#[]⟩ : ByteArray) ++ t228) l0_1 (l0_1.length : Int) 0) else (none)) = some r := H
  have A4 := Aside0.mk A40
  clear A40
  by_cases c5 : 0 + t228.size ≤ 140737488355328
  ·rw [if_pos c5] at H
   have LMc5 := Aside0.mk c5
   have c5b0 := eq_true c5
   have c5b1 : decide (0 + t228.size ≤ 140737488355328) = true := decide_eq_true c5
   try have c5b2 : (9223372036854775807 < 0 + t228.size) = False := eq_false (Nat.not_lt.2 c5)
   have H' := Aside0.mk H
   clear H
   go_enter Try.func8, Try.ntmps8
   go_wp2_with (first | ((with_reducible refine gate_dst (N := 1) rfl ?_); refine bx_ 1 #[.int .i64 a0_0, .slice A0_1 l0_1.length c0_1] 29 ?_; intro gb226 hg w6 hbox hb; have BK226 := Aside0.mk (hbox); have GW226 := gw_ hg; have GE226 := gw_ hg; replace HB := bs_ hb; clear hb hbox hg; obtain ⟨hcz7_0, hcz7_1, hfz7_0, hfz7_1⟩ := b2_ BK226) | ((with_reducible refine gate_callee (f := 19) rfl ?_); refine gsL_ (some 9) Try.func19 #[.agg #[.int .i64 a0_0, .slice A0_1 l0_1.length c0_1]] ?_; (with_reducible refine (impl_BagOk.calls k a0_0 _ _ l0_1 true _ ?side1 ?side2 A2.out).mono ?_); (case side1 => exact ck_ (Kd.C_below HR0_1.out HB.out)); (case side2 => exact HC0_1.out); rintro e w8 ⟨rfl, hb⟩; refine ⟨_, rfl, ?_⟩; replace BK226 := bkb_ BK226 hb; replace HB := bs_ hb; (try clear hb); (try clear hb2); (try clear hk); (try clear hi); obtain ⟨hcz9_0, hcz9_1, hfz9_0, hfz9_1⟩ := b2_ BK226) | ((with_reducible refine gate_callee (f := 21) rfl ?_); refine gsL_ (some 13) Try.func21 #[.int .i64 a0_0, .int .i64 1] ?_; (with_reducible refine (impl_big.calls k a0_0 1 t228 _ A4.out).mono ?_); rintro e w10 ⟨rfl, hb⟩; refine ⟨_, rfl, ?_⟩; replace BK226 := bkb_ BK226 hb; replace HB := bs_ hb; replace IB := Aside0.mk (isB_below IB.out hb); (try clear hb); (try clear hb2); (try clear hk); (try clear hi); obtain ⟨hcz11_0, hcz11_1, hfz11_0, hfz11_1⟩ := b2_ BK226) | ((with_reducible refine gate_dst (N := 3) rfl ?_); refine bx_ 3 #[.pointer none, .slice none 0 0] 50 ?_; intro gb3 hg w5b hbox hb; have LW6 := gw_ hg; have IB := Aside0.mk (isB_new (e := 5) hbox); replace BK226 := bkb_ BK226 hb; replace HB := bs_ hb; clear hb hbox hg; obtain ⟨hcy_0, hcy_1, hfy_0, hfy_1⟩ := b2_ BK226) | (go_at_call 20; (refine (Try.Builder_WriteString_k gb3 gb3 (Lib.byteCells (⟨#[]⟩ : ByteArray).data.toList) t228 _ IB.out ?side1 ?side2).mono ?_); (case side1 => rw [Lib.byteCells_length, Array.length_toList]; exact LMc5.out); (case side2 => exact Nat.le_of_lt (isB_lt IB.out)); rintro e w12 ⟨rfl, hi, hb, hk⟩; have nk0 := Aside0.mk (isB_keep IB.out hk (bkx_ BK226.out) (by decide) (by decide)); have nh := Aside0.mk (HB.out.trans (hb.mono LW6.out)); have ni := Aside0.mk (isB_more hi); clear BK226 HB IB hi hb hk; have BK226 := nk0; have HB := nh; have IB := ni; clear nk0 nh ni; obtain ⟨hcx_0, hcx_1, hfx_0, hfx_1⟩ := b2_ BK226))
   go_loopg [18] k (fun kq v18 w' => ∃ (x3_1 : ByteArray) (x18_1 : Int), v18 = .int .i64 x18_1 ∧ Aside0 (impl_PutBag.l0 kq x3_1 l0_1 (l0_1.length : Int) x18_1 = some r) ∧ Aside0 (kq ≤ k) ∧ Aside0 (w'.heap[gb226]? = some (.cells #[.int .i64 a0_0, (.slice A0_1 l0_1.length c0_1)] 29 (0, 0))) ∧ Aside0 (Lib.IsBuilderF 50 5 gb3 gb3 (Lib.byteCells x3_1.data.toList) w') ∧ Aside0 (Below w.heap.size w w'))
   case atStart => exact ⟨((⟨#[]⟩ : ByteArray) ++ t228), (0), rs_, H', ⟨Nat.le_refl _⟩, ⟨bkx_ BK226.out⟩, IB, ⟨bb_⟩⟩
   case round =>
    clear H'
    try clear c1
    try clear c2
    try clear p2
    try clear c3
    try clear c5
    try clear c5b0
    try clear c5b1
    try clear c5b2
    try clear c8
    try clear hcz11_0
    try clear hcz11_1
    try clear hcz7_0
    try clear hcz7_1
    try clear hcz9_0
    try clear hcz9_1
    try clear hfz11_0
    try clear hfz11_1
    try clear hfz7_0
    try clear hfz7_1
    try clear hfz9_0
    try clear hfz9_1
    try clear hcy_0
    try clear hcy_1
    try clear hfy_0
    try clear hfy_1
    try clear hcx_0
    try clear hcx_1
    try clear hfx_0
    try clear hfx_1
    obtain ⟨x3_1, x18_1, rfl, HA, HK1, BK226, IB, HB⟩ := hrel
    obtain ⟨W1, hW1⟩ : ∃ W1, W1 = wr := ⟨wr, rfl⟩
    subst hW1
    cases gk with
    | zero => exact absurd HA.out (by simp [impl_PutBag.l0])
    | succ k1 =>
     have H := HA.out
     clear HA
     simp only [impl_PutBag.l0] at H
     by_cases c12 : x18_1 < (l0_1.length : Int)
     ·rw [if_pos c12] at H
      have c12b0 : decide (x18_1 < (l0_1.length : Int)) = true := decide_eq_true c12
      clear c12
      by_cases c13 : 0 ≤ x18_1
      ·rw [if_pos c13] at H
       have c13b0 : decide (0 ≤ x18_1) = true := decide_eq_true c13
       clear c13
       by_cases c14 : x18_1 < (l0_1.length : Int)
       ·rw [if_pos c14] at H
        have c14b0 : decide (x18_1 < (l0_1.length : Int)) = true := decide_eq_true c14
        clear c14
        replace H := Option.bind_eq_some_iff.mp H
        obtain ⟨⟨t231, t232, t233⟩, A150, H⟩ := H
        replace H : ((impl_PutValue.f k1 t231 t232 t233).bind fun t234 => (if x3_1.size + t234.size ≤ 140737488355328 then (impl_PutBag.l1 k1 (x3_1 ++ t234) l0_1 (l0_1.length : Int) x18_1 ((rd_T46 l0_1 x18_1).f0) (((rd_T46 l0_1 x18_1).f0).length : Int) 0) else (none))) = some r := H
        have A15 := Aside0.mk A150
        clear A150
        replace H := Option.bind_eq_some_iff.mp H
        obtain ⟨t234, A160, H⟩ := H
        replace H : (if x3_1.size + t234.size ≤ 140737488355328 then (impl_PutBag.l1 k1 (x3_1 ++ t234) l0_1 (l0_1.length : Int) x18_1 ((rd_T46 l0_1 x18_1).f0) (((rd_T46 l0_1 x18_1).f0).length : Int) 0) else (none)) = some r := H
        have A16 := Aside0.mk A160
        clear A160
        by_cases c17 : x3_1.size + t234.size ≤ 140737488355328
        ·rw [if_pos c17] at H
         have LMc17 := Aside0.mk c17
         have c17b0 := eq_true c17
         have c17b1 : decide (x3_1.size + t234.size ≤ 140737488355328) = true := decide_eq_true c17
         try have c17b2 : (9223372036854775807 < x3_1.size + t234.size) = False := eq_false (Nat.not_lt.2 c17)
         have H' := Aside0.mk H
         clear H
         have p229 : 0 ≤ (x18_1 : Int) := of_decide_eq_true (by first | (with_reducible assumption) | assumption)
         have q229 : x18_1 < (l0_1.length : Int) := of_decide_eq_true (by first | (with_reducible assumption) | assumption)
         obtain ⟨ad229, A229_0, c229_0, e229, hx229_0, hx229_1, hl229_0, hi229_0⟩ := at_T46 HR0_1.out x18_1 p229 q229
         cases e229
         replace hx229_0 := hb_ HB hx229_0
         replace hx229_1 := hb_ HB hx229_1
         have HR229_0 := Aside0.mk hi229_0
         have HC229_0 := Aside0.mk hl229_0
         clear hi229_0 hl229_0
         replace p229 := eq_true p229
         replace q229 := eq_true q229
         have HBo := HB
         replace HB := Aside0.mk (Below.refl W1.heap.size W1)
         go_wp2_with (first | ((with_reducible refine gate_dst (N := 5) rfl ?_); refine bx_ 5 #[.slice none 0 0, .int .i64 0] 46 ?_; intro gb230 hg w18 hbox hb; have BK230 := Aside0.mk (hbox); have GW230 := gw_ hg; have GE230 := gw_ hg; have NB226_230 := nl_ hg BK226; have NB230_226 := ng_ hg BK226; replace BK226 := bkb_ BK226 hb; replace HB := bs_ hb; clear hb hbox hg; have hnb19 := NB230_226.out; have hnc19 := NB226_230.out; obtain ⟨hcz20_0, hcz20_1, hfz20_0, hfz20_1⟩ := b2_ BK230) | ((with_reducible refine gate_callee (f := 23) rfl ?_); refine gsL_ (some 24) Try.func23 #[.int .i64 ((rd_T46 l0_1 x18_1).f1)] ?_; (with_reducible refine (impl_number.calls ((rd_T46 l0_1 x18_1).f1) t231 t232 t233 _ A15.out).mono ?_); rintro e w21 ⟨rfl, hb⟩; refine ⟨_, rfl, ?_⟩; replace BK226 := Aside0.mk (blk_below (g := gb226) (o := .cells #[.int .i64 a0_0, .slice (some ad229) l0_1.length c0_1] 29 (0, 0)) (bf2_ NB226_230 (bkx_ BK226.out)) hb); replace BK230 := Aside0.mk (blk_below (g := gb230) (o := .cells #[.slice A229_0 ((rd_T46 l0_1 x18_1).f0).length c229_0, .int .i64 ((rd_T46 l0_1 x18_1).f1)] 46 (0, 0)) (bp2_ (bkx_ BK230.out)) hb); replace HB := bs_ hb; (try clear hb); (try clear hb2); (try clear hk); (try clear hi)) | ((with_reducible refine gate_callee (f := 22) rfl ?_); refine gsL_ (some 25) Try.func22 #[.agg #[.int .i64 t231, .int .i64 t232, .string t233]] ?_; (with_reducible refine (impl_PutValue.calls k1 t231 t232 t233 t234 _ A16.out).mono ?_); rintro e w22 ⟨rfl, hb⟩; refine ⟨_, rfl, ?_⟩; replace BK226 := bkb_ BK226 hb; replace BK230 := bkb_ BK230 hb; replace HB := bs_ hb; (try clear hb); (try clear hb2); (try clear hk); (try clear hi); have hcz23_0 : w22.cell? ⟨gb230, 0, none⟩ = some (.slice A229_0 ((rd_T46 l0_1 x18_1).f0).length c229_0) := bc_ BK230 0; have hcz23_1 : w22.cell? ⟨gb230, 1, none⟩ = some (.int .i64 ((rd_T46 l0_1 x18_1).f1)) := bc_ BK230 1; have hfz23_0 := blk_frozen BK230.out 0; have hfz23_1 := blk_frozen BK230.out 1) | (go_at_call 20; (refine (Try.Builder_WriteString_k gb3 gb3 (Lib.byteCells x3_1.data.toList) t234 _ (isB_below IB.out bb_) ?side1 ?side2).mono ?_); (case side1 => rw [Lib.byteCells_length, Array.length_toList]; exact LMc17.out); (case side2 => exact Nat.le_of_lt (isB_lt (isB_below IB.out bb_))); rintro e w24 ⟨rfl, hi, hb, hk⟩; have nk0 := Aside0.mk (isB_keep (isB_below IB.out bb_) hk (bkx_ BK226.out) (by decide) (by decide)); have nk1 := Aside0.mk (isB_keep (isB_below IB.out bb_) hk (bkx_ BK230.out) (by decide) (by decide)); have nh := Aside0.mk ((below_step HBo.out bb_).trans (hb.mono LW6.out)); have ni := Aside0.mk (isB_more hi); clear BK226 BK230 HB IB hi hb hk; have BK226 := nk0; have BK230 := nk1; have HB := nh; have IB := ni; clear nk0 nk1 nh ni; obtain ⟨hcv_0, hcv_1, hfv_0, hfv_1⟩ := b2_ BK230))
         go_loopg [30] k1 (fun kq v30 w' => ∃ (x3_2 : ByteArray) (x30_2 : Int), v30 = .int .i64 x30_2 ∧ Aside0 (impl_PutBag.l1 kq x3_2 l0_1 (l0_1.length : Int) x18_1 ((rd_T46 l0_1 x18_1).f0) (((rd_T46 l0_1 x18_1).f0).length : Int) x30_2 = some r) ∧ Aside0 (kq ≤ k1) ∧ Aside0 (w'.heap[gb226]? = some (.cells #[.int .i64 a0_0, (.slice (some ad229) l0_1.length c0_1)] 29 (0, 0))) ∧ Aside0 (w'.heap[gb230]? = some (.cells #[(.slice A229_0 ((rd_T46 l0_1 x18_1).f0).length c229_0), .int .i64 ((rd_T46 l0_1 x18_1).f1)] 46 (0, 0))) ∧ Aside0 (Lib.IsBuilderF 50 5 gb3 gb3 (Lib.byteCells x3_2.data.toList) w') ∧ Aside0 (Below w.heap.size w w'))
         case atStart => exact ⟨(x3_1 ++ t234), (0), rs_, H', ⟨Nat.le_refl _⟩, ⟨bkx_ BK226.out⟩, ⟨bkx_ BK230.out⟩, IB, ⟨bb_⟩⟩
         case round =>
          clear H'
          try clear c1
          try clear c2
          try clear p2
          try clear q2
          try clear hx2
          try clear c3
          try clear c5
          try clear c5b0
          try clear c5b1
          try clear c5b2
          try clear c8
          try clear c12
          try clear c12b0
          try clear c13
          try clear c13b0
          try clear c14
          try clear c14b0
          try clear c17
          try clear c17b0
          try clear c17b1
          try clear c17b2
          try clear c19
          try clear c21
          try clear c22
          try clear p22
          try clear q22
          try clear hx22
          try clear c23
          try clear hcz11_0
          try clear hcz11_1
          try clear hcz20_0
          try clear hcz20_1
          try clear hcz23_0
          try clear hcz23_1
          try clear hcz7_0
          try clear hcz7_1
          try clear hcz9_0
          try clear hcz9_1
          try clear hfz11_0
          try clear hfz11_1
          try clear hfz20_0
          try clear hfz20_1
          try clear hfz23_0
          try clear hfz23_1
          try clear hfz7_0
          try clear hfz7_1
          try clear hfz9_0
          try clear hfz9_1
          try clear hx229_0
          try clear hx229_1
          try clear p2
          try clear p229
          try clear q229
          try clear hcv_0
          try clear hcv_1
          try clear hfv_0
          try clear hfv_1
          obtain ⟨x3_2, x30_2, rfl, HA, HK2, BK226, BK230, IB, HB⟩ := hrel
          obtain ⟨W2, hW2⟩ : ∃ W2, W2 = wr := ⟨wr, rfl⟩
          subst hW2
          cases gk with
          | zero => exact absurd HA.out (by simp [impl_PutBag.l1])
          | succ k2 =>
           have H := HA.out
           clear HA
           simp only [impl_PutBag.l1] at H
           by_cases c24 : x30_2 < (((rd_T46 l0_1 x18_1).f0).length : Int)
           ·rw [if_pos c24] at H
            have c24b0 : decide (x30_2 < (((rd_T46 l0_1 x18_1).f0).length : Int)) = true := decide_eq_true c24
            clear c24
            by_cases c25 : 0 ≤ x30_2
            ·rw [if_pos c25] at H
             have c25b0 : decide (0 ≤ x30_2) = true := decide_eq_true c25
             clear c25
             by_cases c26 : x30_2 < (((rd_T46 l0_1 x18_1).f0).length : Int)
             ·rw [if_pos c26] at H
              have c26b0 : decide (x30_2 < (((rd_T46 l0_1 x18_1).f0).length : Int)) = true := decide_eq_true c26
              clear c26
              replace H := Option.bind_eq_some_iff.mp H
              obtain ⟨t237, A270, H⟩ := H
              replace H : (if x3_2.size + t237.size ≤ 140737488355328 then (impl_PutBag.l1 k2 (x3_2 ++ t237) l0_1 (l0_1.length : Int) x18_1 ((rd_T46 l0_1 x18_1).f0) (((rd_T46 l0_1 x18_1).f0).length : Int) (wrap64 (x30_2 + 1))) else (none)) = some r := H
              have A27 := Aside0.mk A270
              clear A270
              by_cases c28 : x3_2.size + t237.size ≤ 140737488355328
              ·rw [if_pos c28] at H
               have LMc28 := Aside0.mk c28
               have c28b0 := eq_true c28
               have c28b1 : decide (x3_2.size + t237.size ≤ 140737488355328) = true := decide_eq_true c28
               try have c28b2 : (9223372036854775807 < x3_2.size + t237.size) = False := eq_false (Nat.not_lt.2 c28)
               have H' := Aside0.mk H
               clear H
               have p235 : 0 ≤ (x30_2 : Int) := of_decide_eq_true (by first | (with_reducible assumption) | assumption)
               have q235 : x30_2 < (((rd_T46 l0_1 x18_1).f0).length : Int) := of_decide_eq_true (by first | (with_reducible assumption) | assumption)
               obtain ⟨ad235, e235, hx235_0, hx235_1, hx235_2⟩ := at_T42 HR229_0.out x30_2 p235 q235
               cases e235
               replace hx235_0 := hb_ HB hx235_0
               replace hx235_1 := hb_ HB hx235_1
               replace hx235_2 := hb_ HB hx235_2
               replace p235 := eq_true p235
               replace q235 := eq_true q235
               have HBp := HB
               replace HB := Aside0.mk (Below.refl W2.heap.size W2)
               go_wp2_with (first | ((with_reducible refine gate_dst (N := 7) rfl ?_); refine bx_ 7 #[.int .i64 0, .int .i64 0, .string (⟨#[]⟩ : ByteArray)] 42 ?_; intro gb236 hg w29 hbox hb; have BK236 := Aside0.mk (hbox); have GW236 := gw_ hg; have GE236 := gw_ hg; have NB226_236 := nl_ hg BK226; have NB236_226 := ng_ hg BK226; have NB230_236 := nl_ hg BK230; have NB236_230 := ng_ hg BK230; replace BK226 := bkb_ BK226 hb; replace BK230 := bkb_ BK230 hb; replace HB := bs_ hb; clear hb hbox hg; have hnb30 := NB236_226.out; have hnc30 := NB226_236.out; have hnb31 := NB236_230.out; have hnc31 := NB230_236.out; obtain ⟨hcz32_0, hcz32_1, hcz32_2, hfz32_0, hfz32_1, hfz32_2⟩ := b3_ BK236) | ((with_reducible refine gate_callee (f := 22) rfl ?_); refine gsL_ (some 35) Try.func22 #[.agg #[.int .i64 ((rd_T42 ((rd_T46 l0_1 x18_1).f0) x30_2).f0), .int .i64 ((rd_T42 ((rd_T46 l0_1 x18_1).f0) x30_2).f1), .string ((rd_T42 ((rd_T46 l0_1 x18_1).f0) x30_2).f2)]] ?_; (with_reducible refine (impl_PutValue.calls k2 ((rd_T42 ((rd_T46 l0_1 x18_1).f0) x30_2).f0) ((rd_T42 ((rd_T46 l0_1 x18_1).f0) x30_2).f1) ((rd_T42 ((rd_T46 l0_1 x18_1).f0) x30_2).f2) t237 _ A27.out).mono ?_); rintro e w33 ⟨rfl, hb⟩; refine ⟨_, rfl, ?_⟩; replace BK226 := Aside0.mk (blk_below (g := gb226) (o := .cells #[.int .i64 a0_0, .slice (some ad229) l0_1.length c0_1] 29 (0, 0)) (bf3_ NB226_236 (bkx_ BK226.out)) hb); replace BK230 := Aside0.mk (blk_below (g := gb230) (o := .cells #[.slice (some ad235) ((rd_T46 l0_1 x18_1).f0).length c229_0, .int .i64 ((rd_T46 l0_1 x18_1).f1)] 46 (0, 0)) (bf3_ NB230_236 (bkx_ BK230.out)) hb); replace BK236 := Aside0.mk (blk_below (g := gb236) (o := .cells #[.int .i64 ((rd_T42 ((rd_T46 l0_1 x18_1).f0) x30_2).f0), .int .i64 ((rd_T42 ((rd_T46 l0_1 x18_1).f0) x30_2).f1), .string ((rd_T42 ((rd_T46 l0_1 x18_1).f0) x30_2).f2)] 42 (0, 0)) (bp3_ (bkx_ BK236.out)) hb); replace HB := bs_ hb; (try clear hb); (try clear hb2); (try clear hk); (try clear hi)) | (go_at_call 20; (refine (Try.Builder_WriteString_k gb3 gb3 (Lib.byteCells x3_2.data.toList) t237 _ (isB_below IB.out bb_) ?side1 ?side2).mono ?_); (case side1 => rw [Lib.byteCells_length, Array.length_toList]; exact LMc28.out); (case side2 => exact Nat.le_of_lt (isB_lt (isB_below IB.out bb_))); rintro e w38 ⟨rfl, hi, hb, hk⟩; have nk0 := Aside0.mk (isB_keep (isB_below IB.out bb_) hk (bkx_ BK226.out) (by decide) (by decide)); have nk1 := Aside0.mk (isB_keep (isB_below IB.out bb_) hk (bkx_ BK230.out) (by decide) (by decide)); have nh := Aside0.mk ((below_step HBp.out bb_).trans (hb.mono LW6.out)); have ni := Aside0.mk (isB_more hi); clear BK226 BK230 HB IB hi hb hk; have BK226 := nk0; have BK230 := nk1; have HB := nh; have IB := ni; clear nk0 nk1 nh ni))
               go_roundg k2
               case measure => have := HK1.out; have := HK2.out; omega
               case rel => exact ⟨(x3_2 ++ t237), (wrap64 (x30_2 + 1)), rs_, H', ⟨by have := HK1.out; have := HK2.out; omega⟩, ⟨bkx_ BK226.out⟩, ⟨bkx_ BK230.out⟩, IB, ⟨bb_⟩⟩
              ·rw [if_neg c28] at H
               exact absurd H (by simp)
             ·rw [if_neg c26] at H
              exact absurd H (by simp)
            ·rw [if_neg c25] at H
             exact absurd H (by simp)
           ·rw [if_neg c24] at H
            have c24b0 : decide (x30_2 < (((rd_T46 l0_1 x18_1).f0).length : Int)) = false := decide_eq_false c24
            clear c24
            have H' := Aside0.mk H
            clear H
            go_wp2
            go_roundg k2
            case measure => have := HK1.out; have := HK2.out; omega
            case rel => exact ⟨(x3_2), (wrap64 (x18_1 + 1)), rs_, H', ⟨by have := HK1.out; have := HK2.out; omega⟩, ⟨bkx_ BK226.out⟩, IB, ⟨bb_⟩⟩
        ·rw [if_neg c17] at H
         exact absurd H (by simp)
       ·rw [if_neg c14] at H
        exact absurd H (by simp)
      ·rw [if_neg c13] at H
       exact absurd H (by simp)
     ·rw [if_neg c12] at H
      have c12b0 : decide (x18_1 < (l0_1.length : Int)) = false := decide_eq_false c12
      clear c12
      obtain rfl := Option.some.inj H
      go_wp2_with (first | (go_at_call 24; (refine (Try.Builder_String_any_f gb3 gb3 x3_1.data.toList _ IB.out (Nat.le_of_lt (isB_lt IB.out))).mono ?_); rintro e w43 ⟨rfl, _, hb⟩; replace HB := Aside0.mk (HB.out.trans (hb.mono LW6.out)); clear hb))
      go_ret
      exact ⟨by cases x3_1; rfl, bb_⟩
  ·rw [if_neg c5] at H
   exact absurd H (by simp)
 ·replace c3 := Bool.eq_false_iff.mpr c3
  subst c3
  have H1 : (some (⟨#[]⟩ : ByteArray)) = some r := by rw [if_neg (show ¬ (false = true) by decide)] at H; exact H
  clear H
  have H := H1
  clear H1
  obtain rfl := Option.some.inj H
  go_enter Try.func8, Try.ntmps8
  go_wp2_with (first | ((with_reducible refine gate_dst (N := 1) rfl ?_); refine bx_ 1 #[.int .i64 a0_0, .slice A0_1 l0_1.length c0_1] 29 ?_; intro gb226 hg w34 hbox hb; have BK226 := Aside0.mk (hbox); have GW226 := gw_ hg; have GE226 := gw_ hg; replace HB := bs_ hb; clear hb hbox hg; obtain ⟨hcz35_0, hcz35_1, hfz35_0, hfz35_1⟩ := b2_ BK226) | ((with_reducible refine gate_callee (f := 19) rfl ?_); refine gsL_ (some 9) Try.func19 #[.agg #[.int .i64 a0_0, .slice A0_1 l0_1.length c0_1]] ?_; (with_reducible refine (impl_BagOk.calls k a0_0 _ _ l0_1 false _ ?side1 ?side2 A2.out).mono ?_); (case side1 => exact ck_ (Kd.C_below HR0_1.out HB.out)); (case side2 => exact HC0_1.out); rintro e w36 ⟨rfl, hb⟩; refine ⟨_, rfl, ?_⟩; replace BK226 := bkb_ BK226 hb; replace HB := bs_ hb; (try clear hb); (try clear hb2); (try clear hk); (try clear hi)))
  go_ret
  exact ⟨er_, bb_⟩


/-! ### laws_eqValue: function 63 -/
def laws_eqValue.f (a0_0 : Int) (a0_1 : Int) (a0_2 : ByteArray) (a1_0 : Int) (a1_1 : Int) (a1_2 : ByteArray) : Option (Bool) := if a0_0 = a1_0 then (if a0_1 = a1_1 then (if a0_2.toList = a1_2.toList then (some true) else (some false)) else (some false)) else (some false)
set_option maxHeartbeats 8000000 in
set_option maxRecDepth 100000 in
theorem laws_eqValue.calls (a0_0 : Int) (a0_1 : Int) (a0_2 : ByteArray) (a1_0 : Int) (a1_1 : Int) (a1_2 : ByteArray) (r : Bool) (w : World) (h : laws_eqValue.f a0_0 a0_1 a0_2 a1_0 a1_1 a1_2 = some r) :
  Calls Try.prog 63 #[.agg #[.int .i64 a0_0, .int .i64 a0_1, .string a0_2], .agg #[.int .i64 a1_0, .int .i64 a1_1, .string a1_2]] w fun e w' => e = .returned (.bool r) ∧ Below w.heap.size w w' := by
 have hu42 := Try.underlying42
 have HB := Aside0.mk (Below.refl w.heap.size w)
 have H : (if a0_0 = a1_0 then (if a0_1 = a1_1 then (if a0_2.toList = a1_2.toList then (some true) else (some false)) else (some false)) else (some false)) = some r := h
 clear h
 by_cases c3 : a0_0 = a1_0
 ·rw [if_pos c3] at H
  have c3b0 : (a0_0 == a1_0) = true := beq_iff_eq.mpr c3
  have c3b1 : (a0_0 != a1_0) = false := bne_eq_false_iff_eq.mpr c3
  clear c3
  by_cases c4 : a0_1 = a1_1
  ·rw [if_pos c4] at H
   have c4b0 : (a0_1 == a1_1) = true := beq_iff_eq.mpr c4
   have c4b1 : (a0_1 != a1_1) = false := bne_eq_false_iff_eq.mpr c4
   clear c4
   by_cases c5 : a0_2.toList = a1_2.toList
   ·rw [if_pos c5] at H
    have c5b0 : (a0_2.toList == a1_2.toList) = true := beq_iff_eq.mpr c5
    have c5b1 : (a0_2.toList != a1_2.toList) = false := bne_eq_false_iff_eq.mpr c5
    clear c5
    obtain rfl := Option.some.inj H
    go_enter Try.func63, Try.ntmps63
    go_wp2_with (first | ((with_reducible refine gate_dst (N := 2) rfl ?_); refine bx_ 2 #[.int .i64 a0_0, .int .i64 a0_1, .string a0_2] 42 ?_; intro gb206 hg w6 hbox hb; have BK206 := Aside0.mk (hbox); have GW206 := gw_ hg; have GE206 := gw_ hg; replace HB := bs_ hb; clear hb hbox hg) | ((with_reducible refine gate_dst (N := 3) rfl ?_); refine bx_ 3 #[.int .i64 a1_0, .int .i64 a1_1, .string a1_2] 42 ?_; intro gb207 hg w7 hbox hb; have BK207 := Aside0.mk (hbox); have GW207 := gw_ hg; have GE207 := gw_ hg; have NB206_207 := nl_ hg BK206; have NB207_206 := ng_ hg BK206; replace BK206 := bkb_ BK206 hb; replace HB := bs_ hb; clear hb hbox hg; have hnb8 := NB206_207.out; have hnc8 := NB207_206.out; obtain ⟨hcz9_0, hcz9_1, hcz9_2, hfz9_0, hfz9_1, hfz9_2⟩ := b3_ BK206; obtain ⟨hcz10_0, hcz10_1, hcz10_2, hfz10_0, hfz10_1, hfz10_2⟩ := b3_ BK207))
    go_ret
    exact ⟨er_, bb_⟩
   ·rw [if_neg c5] at H
    have c5b0 : (a0_2.toList == a1_2.toList) = false := beq_eq_false_iff_ne.mpr c5
    have c5b1 : (a0_2.toList != a1_2.toList) = true := bne_iff_ne.mpr c5
    obtain rfl := Option.some.inj H
    go_enter Try.func63, Try.ntmps63
    go_wp2_with (first | ((with_reducible refine gate_dst (N := 2) rfl ?_); refine bx_ 2 #[.int .i64 a0_0, .int .i64 a0_1, .string a0_2] 42 ?_; intro gb206 hg w11 hbox hb; have BK206 := Aside0.mk (hbox); have GW206 := gw_ hg; have GE206 := gw_ hg; replace HB := bs_ hb; clear hb hbox hg) | ((with_reducible refine gate_dst (N := 3) rfl ?_); refine bx_ 3 #[.int .i64 a1_0, .int .i64 a1_1, .string a1_2] 42 ?_; intro gb207 hg w12 hbox hb; have BK207 := Aside0.mk (hbox); have GW207 := gw_ hg; have GE207 := gw_ hg; have NB206_207 := nl_ hg BK206; have NB207_206 := ng_ hg BK206; replace BK206 := bkb_ BK206 hb; replace HB := bs_ hb; clear hb hbox hg; have hnb13 := NB206_207.out; have hnc13 := NB207_206.out; obtain ⟨hcz14_0, hcz14_1, hcz14_2, hfz14_0, hfz14_1, hfz14_2⟩ := b3_ BK206; obtain ⟨hcz15_0, hcz15_1, hcz15_2, hfz15_0, hfz15_1, hfz15_2⟩ := b3_ BK207))
    go_ret
    exact ⟨er_, bb_⟩
  ·rw [if_neg c4] at H
   have c4b0 : (a0_1 == a1_1) = false := beq_eq_false_iff_ne.mpr c4
   have c4b1 : (a0_1 != a1_1) = true := bne_iff_ne.mpr c4
   obtain rfl := Option.some.inj H
   go_enter Try.func63, Try.ntmps63
   go_wp2_with (first | ((with_reducible refine gate_dst (N := 2) rfl ?_); refine bx_ 2 #[.int .i64 a0_0, .int .i64 a0_1, .string a0_2] 42 ?_; intro gb206 hg w16 hbox hb; have BK206 := Aside0.mk (hbox); have GW206 := gw_ hg; have GE206 := gw_ hg; replace HB := bs_ hb; clear hb hbox hg) | ((with_reducible refine gate_dst (N := 3) rfl ?_); refine bx_ 3 #[.int .i64 a1_0, .int .i64 a1_1, .string a1_2] 42 ?_; intro gb207 hg w17 hbox hb; have BK207 := Aside0.mk (hbox); have GW207 := gw_ hg; have GE207 := gw_ hg; have NB206_207 := nl_ hg BK206; have NB207_206 := ng_ hg BK206; replace BK206 := bkb_ BK206 hb; replace HB := bs_ hb; clear hb hbox hg; have hnb18 := NB206_207.out; have hnc18 := NB207_206.out; obtain ⟨hcz19_0, hcz19_1, hcz19_2, hfz19_0, hfz19_1, hfz19_2⟩ := b3_ BK206; obtain ⟨hcz20_0, hcz20_1, hcz20_2, hfz20_0, hfz20_1, hfz20_2⟩ := b3_ BK207))
   go_ret
   exact ⟨er_, bb_⟩
 ·rw [if_neg c3] at H
  have c3b0 : (a0_0 == a1_0) = false := beq_eq_false_iff_ne.mpr c3
  have c3b1 : (a0_0 != a1_0) = true := bne_iff_ne.mpr c3
  obtain rfl := Option.some.inj H
  go_enter Try.func63, Try.ntmps63
  go_wp2_with (first | ((with_reducible refine gate_dst (N := 2) rfl ?_); refine bx_ 2 #[.int .i64 a0_0, .int .i64 a0_1, .string a0_2] 42 ?_; intro gb206 hg w21 hbox hb; have BK206 := Aside0.mk (hbox); have GW206 := gw_ hg; have GE206 := gw_ hg; replace HB := bs_ hb; clear hb hbox hg) | ((with_reducible refine gate_dst (N := 3) rfl ?_); refine bx_ 3 #[.int .i64 a1_0, .int .i64 a1_1, .string a1_2] 42 ?_; intro gb207 hg w22 hbox hb; have BK207 := Aside0.mk (hbox); have GW207 := gw_ hg; have GE207 := gw_ hg; have NB206_207 := nl_ hg BK206; have NB207_206 := ng_ hg BK206; replace BK206 := bkb_ BK206 hb; replace HB := bs_ hb; clear hb hbox hg; have hnb23 := NB206_207.out; have hnc23 := NB207_206.out; obtain ⟨hcz24_0, hcz24_1, hcz24_2, hfz24_0, hfz24_1, hfz24_2⟩ := b3_ BK206; obtain ⟨hcz25_0, hcz25_1, hcz25_2, hfz25_0, hfz25_1, hfz25_2⟩ := b3_ BK207))
  go_ret
  exact ⟨er_, bb_⟩

end Go.Proofs.Ytnibegacjmnhoaa.PFnExactPutBag
