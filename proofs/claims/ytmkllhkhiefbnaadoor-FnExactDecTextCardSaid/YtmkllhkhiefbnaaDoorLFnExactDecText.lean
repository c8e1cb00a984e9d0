/- Plain lemmas on what the functions of the law FnExactDecText compute: numbers and lists alone. -/
import Derived.Test.YtmkllhkhiefbnaaDoorPFnExactDecTextx0
import Derived.Test.YtmkllhkhiefbnaaDoorPFnExactDecTextx1
import Derived.Test.YtmkllhkhiefbnaaDoorOpen
import Derived.Test.YtmkllhkhiefbnaaDoorZFnExactDecText
namespace Go.Proofs.YtmkllhkhiefbnaaDoor.PFnExactDecText
open Go.RowKit Go.Proofs.YtmkllhkhiefbnaaDoorW.PrintWords Go.Proofs.YtmkllhkhiefbnaaDoorW.PrintLast Go.Proofs.YtmkllhkhiefbnaaDoorW.PrintMore Go.Proofs.YtmkllhkhiefbnaaDoorOpen Go.Proofs.YtmkllhkhiefbnaaDoor.ZFnExactDecText
set_option linter.unusedVariables false
set_option linter.unusedSimpArgs false
/-! #### decimal numerals -/
theorem digit_cut (d : Nat) (hd : d < 10) : (⟨#[48, 49, 50, 51, 52, 53, 54, 55, 56, 57]⟩ : ByteArray).extract d (d + 1) = mkB [UInt8.ofNat (48 + d)] := by
  have : d = 0 ∨ d = 1 ∨ d = 2 ∨ d = 3 ∨ d = 4 ∨ d = 5 ∨ d = 6 ∨ d = 7 ∨ d = 8 ∨ d = 9 := by omega
  rcases this with rfl | rfl | rfl | rfl | rfl | rfl | rfl | rfl | rfl | rfl <;> rfl
theorem decDigits_pos {u : Nat} (h : 0 < u) : Lib.decDigits u = (if u / 10 = 0 then [] else Lib.decDigits (u / 10)) ++ [UInt8.ofNat (48 + u % 10)] := by
  by_cases h10 : u < 10
  · rw [Lib.decDigits, dif_pos h10, if_pos (by omega), Nat.mod_eq_of_lt h10]
    rfl
  · rw [Lib.decDigits, dif_neg h10, if_neg (by omega)]
theorem decDigits_len (u : Nat) : (Lib.decDigits u).length ≤ u + 1 := by
  induction u using Nat.strongRecOn with
  | _ u ih =>
    by_cases h10 : u < 10
    · rw [Lib.decDigits, dif_pos h10]
      simp
    · rw [Lib.decDigits, dif_neg h10]
      have := ih (u / 10) (by omega)
      simp
      omega
/-- The digits of a number that is not 0, laid ahead of a text. -/
theorem decLoop_is (a0 : Int) (h0 : -9223372036854775808 ≤ a0) (h1 : a0 ≤ 9223372036854775807) : ∀ (n : Nat) (m : Int) (acc : List UInt8), m.natAbs = n → n ≤ 9223372036854775808 → (m < 0 → a0 < 0) → -9223372036854775808 ≤ m → m ≤ 9223372036854775807 → acc.length + n ≤ 9223372036854775900 →
    (acc.length ≤ 100) → (∀ j, n / 10 ^ j ≠ 0 → acc.length + j < 30) →
    Ev (fun k => spec_DecText.l0 k a0 (mkB acc) m) (mkB ((if a0 < 0 then [45] else []) ++ ((if n = 0 then [] else Lib.decDigits n) ++ acc))) := by
  intro n
  induction n using Nat.strongRecOn with
  | _ n ih =>
    intro m acc hm hn hneg l0 l1 hl hl2 hj
    by_cases z : m = 0
    · have hn0 : n = 0 := by omega
      refine Ev.step (fun k => rfl) (ev_if_pos z ?_)
      rw [if_pos hn0]
      by_cases ha : a0 < 0
      · refine ev_if_pos ha (ev_if_pos (by rw [mkB_size]; omega) (ev_conv (ev_some fun _ => rfl) ?_))
        rw [if_pos ha]
        exact mkB_append [45] acc
      · exact ev_if_neg ha (ev_conv (ev_some fun _ => rfl) (by rw [if_neg ha]; rfl))
    · have hn0 : 0 < n := by omega
      have hj0 := hj 0 (by simp; omega)
      have hd : n % 10 < 10 := Nat.mod_lt _ (by omega)
      have rest : Ev (fun k => spec_DecText.l0 k a0 (mkB (UInt8.ofNat (48 + n % 10) :: acc)) (wrap64 (Int.tdiv m 10))) (mkB ((if a0 < 0 then [45] else []) ++ ((if n = 0 then [] else Lib.decDigits n) ++ acc))) := by
        have hq : (Int.tdiv m 10).natAbs = n / 10 := by rw [Int.natAbs_tdiv, hm]; rfl
        have hb : -9223372036854775808 ≤ Int.tdiv m 10 ∧ Int.tdiv m 10 ≤ 9223372036854775807 := by omega
        rw [wrap_id hb.1 hb.2]
        have hs : Int.tdiv m 10 < 0 → m < 0 := by
          intro h
          rcases Int.lt_or_le m 0 with g | g
          · exact g
          · have := Int.tdiv_nonneg g (show (0 : Int) ≤ 10 by decide)
            omega
        refine ev_conv (ih (n / 10) (by omega) (Int.tdiv m 10) (UInt8.ofNat (48 + n % 10) :: acc) hq (by omega) (fun h => hneg (hs h)) hb.1 hb.2 (by simp; omega) (by simp; omega) (fun j h => ?_)) ?_
        · have := hj (j + 1) (by rwa [Nat.pow_succ, Nat.mul_comm, ← Nat.div_div_eq_div_mul])
          simp
          omega
        · rw [if_neg (show ¬ n = 0 by omega), decDigits_pos hn0]
          simp
      have cut : ∀ (d : Int), d = ((n % 10 : Nat) : Int) → ((⟨#[48, 49, 50, 51, 52, 53, 54, 55, 56, 57]⟩ : ByteArray).extract d.toNat (wrap64 (d + 1)).toNat) ++ mkB acc = mkB (UInt8.ofNat (48 + n % 10) :: acc) ∧ ((⟨#[48, 49, 50, 51, 52, 53, 54, 55, 56, 57]⟩ : ByteArray).extract d.toNat (wrap64 (d + 1)).toNat).size + (mkB acc).size ≤ 9223372036854775807 := by
        intro d hd'
        rw [wrap_id (x := d + 1) (by omega) (by omega), show d.toNat = n % 10 by omega, show (d + 1).toNat = n % 10 + 1 by omega, digit_cut _ hd, mkB_append, mkB_size, mkB_size]
        exact ⟨rfl, by simp; omega⟩
      refine Ev.step (fun k => rfl) (ev_if_neg z ?_)
      have ht : (Int.tmod m 10).natAbs = n % 10 := by rw [Int.natAbs_tmod, hm]; rfl
      by_cases s : Int.tmod m 10 < 0
      · have e : wrap64 (-(Int.tmod m 10)) = ((n % 10 : Nat) : Int) := by rw [wrap_id (by omega) (by omega)]; omega
        obtain ⟨c1, c2⟩ := cut _ e
        refine ev_if_pos s (ev_if_pos (by omega) (ev_if_pos (by rw [wrap_id (x := wrap64 (-(Int.tmod m 10)) + 1) (by omega) (by omega)]; omega) (ev_if_pos (by rw [wrap_id (x := wrap64 (-(Int.tmod m 10)) + 1) (by omega) (by omega)]; omega) (ev_if_pos c2 ?_))))
        rw [c1]
        exact rest
      · have e : Int.tmod m 10 = ((n % 10 : Nat) : Int) := by omega
        obtain ⟨c1, c2⟩ := cut _ e
        refine ev_if_neg s (ev_if_pos (by omega) (ev_if_pos (by rw [wrap_id (x := Int.tmod m 10 + 1) (by omega) (by omega)]; omega) (ev_if_pos (by rw [wrap_id (x := Int.tmod m 10 + 1) (by omega) (by omega)]; omega) (ev_if_pos c2 ?_))))
        rw [c1]
        exact rest
theorem specDecText_is (a0 : Int) (h0 : -9223372036854775808 ≤ a0) (h1 : a0 ≤ 9223372036854775807) : Ev (fun k => spec_DecText.f k a0) (mkB (Lib.itoa a0)) := by
  by_cases z : a0 = 0
  · refine ev_if_pos z (ev_conv (ev_some fun _ => rfl) ?_)
    subst z
    rw [Lib.itoa, if_neg (by decide), Lib.decDigits, dif_pos (by decide)]
    rfl
  · refine ev_if_neg z (ev_conv (decLoop_is a0 h0 h1 a0.natAbs a0 [] rfl (by omega) (fun h => h) h0 h1 (by simp; omega) (by simp) (fun j h => ?_)) ?_)
    · have hlt : 10 ^ j ≤ a0.natAbs := by
        rcases Nat.lt_or_ge a0.natAbs (10 ^ j) with g | g
        · exact absurd (Nat.div_eq_of_lt g) h
        · exact g
      simp
      rcases Nat.lt_or_ge j 30 with g | g
      · exact g
      · have := Nat.pow_le_pow_right (show 0 < 10 by decide) g
        have e : (10 : Nat) ^ 30 = 1000000000000000000000000000000 := by decide
        omega
    · rw [if_neg (show ¬ a0.natAbs = 0 by omega), List.append_nil, Lib.itoa]
      by_cases s : a0 < 0
      · rw [if_pos s, if_pos s]
        rfl
      · rw [if_neg s, if_neg s, show a0.toNat = a0.natAbs by omega]
        rfl
theorem implDecText_is (a0 : Int) (h0 : -9223372036854775808 ≤ a0) (h1 : a0 ≤ 9223372036854775807) : impl_DecText.f a0 = some (mkB (Lib.itoa a0)) := by
  unfold impl_DecText.f strconv_Itoa.f
  rw [if_pos h0, if_pos h1]
  rfl
end Go.Proofs.YtmkllhkhiefbnaaDoor.PFnExactDecText
