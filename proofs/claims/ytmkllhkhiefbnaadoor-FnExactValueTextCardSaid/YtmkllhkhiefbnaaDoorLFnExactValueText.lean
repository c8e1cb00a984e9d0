/- Plain lemmas on what the functions of the law FnExactValueText compute: numbers and lists alone. -/
import Derived.Test.YtmkllhkhiefbnaaDoorPFnExactValueTextx0
import Derived.Test.YtmkllhkhiefbnaaDoorPFnExactValueTextx1
import Derived.Test.YtmkllhkhiefbnaaDoorPFnExactValueTextx2
import Derived.Test.YtmkllhkhiefbnaaDoorOpen
import Derived.Test.YtmkllhkhiefbnaaDoorZFnExactValueText
namespace Go.Proofs.YtmkllhkhiefbnaaDoor.PFnExactValueText
open Go.RowKit Go.Proofs.YtmkllhkhiefbnaaDoorW.PrintWords Go.Proofs.YtmkllhkhiefbnaaDoorW.PrintLast Go.Proofs.YtmkllhkhiefbnaaDoorW.PrintMore Go.Proofs.YtmkllhkhiefbnaaDoorOpen Go.Proofs.YtmkllhkhiefbnaaDoor.ZFnExactValueText
set_option linter.unusedVariables false
set_option linter.unusedSimpArgs false
/-- What is left of the bound behind a text. -/
theorem szValue_is (a b : Int) (s : ByteArray) (l : Int) (h0 : 0 ≤ l) (h1 : l ≤ 1048576) (hs : s.size ≤ 9223372036854775807) : laws_szValue.f a b s l = some (lft l s.size) := by
  unfold laws_szValue.f
  rw [wrap_id (x := l - (s.size : Int)) (by omega) (by omega)]
  by_cases h : l - (s.size : Int) < 0
  · rw [if_pos h, lft_of_gt (by omega)]
  · rw [if_neg h, lft_of_le (by omega)]
/-- Is a value right. -/
def okV (a b : Int) (s : List UInt8) : Bool := if a = 0 then (b == 0 && s.isEmpty) else if a = 1 then s.isEmpty else if a = 2 then (decide (0 ≤ b ∧ b ≤ 1) && s.isEmpty) else if a = 3 then (b == 0 && decide (s.length ≤ 100)) else false
theorem specValueOk_is (a b : Int) (s : ByteArray) : spec_ValueOk.f a b s = some (okV a b s.data.toList) := by
  unfold spec_ValueOk.f okV spec_l01In.f
  have he : (s.toList == ([] : List UInt8)) = s.data.toList.isEmpty := by rw [toList_data]; cases s.data.toList <;> rfl
  rw [he, size_data]
  by_cases h0 : a = 0
  · by_cases hb : b = 0 <;> simp [h0, hb]
  · by_cases h1 : a = 1
    · simp [h1]
    · by_cases h2 : a = 2
      · by_cases hb : 0 ≤ b
        · by_cases hb' : b ≤ 1 <;> simp [h2, hb, hb']
        · simp [h2, hb]
      · by_cases h3 : a = 3
        · by_cases hb : b = 0
          · simp [h3, hb]
            omega
          · simp [h3, hb]
        · simp [h0, h1, h2, h3]
theorem implValueOk_is (a b : Int) (s : ByteArray) : impl_ValueOk.f a b s = some (okV a b s.data.toList) := specValueOk_is a b s
/-! #### decimal numerals -/
theorem digit_cut (d : Nat) (hd : d < 10) : (⟨#[48, 49, 50, 51, 52, 53, 54, 55, 56, 57]⟩ : ByteArray).extract d (d + 1) = mkB [UInt8.ofNat (48 + d)] := by
  have : d = 0 ∨ d = 1 ∨ d = 2 ∨ d = 3 ∨ d = 4 ∨ d = 5 ∨ d = 6 ∨ d = 7 ∨ d = 8 ∨ d = 9 := by omega
  rcases this with rfl | rfl | rfl | rfl | rfl | rfl | rfl | rfl | rfl | rfl <;> rfl
theorem decDigits_pos {u : Nat} (h : 0 < u) : Lib.decDigits u = (if u / 10 = 0 then [] else Lib.decDigits (u / 10)) ++ [UInt8.ofNat (48 + u % 10)] := by
  by_cases h10 : u < 10
  · rw [Lib.decDigits, dif_pos h10, if_pos (by omega), Nat.mod_eq_of_lt h10]
    rfl
  · rw [Lib.decDigits, dif_neg h10, if_neg (by omega)]
theorem decDigits_len (u : Nat) : (Lib.decDigits u).length ≤ u + 1 := by
  induction u using Nat.strongRecOn with
  | _ u ih =>
    by_cases h10 : u < 10
    · rw [Lib.decDigits, dif_pos h10]
      simp
    · rw [Lib.decDigits, dif_neg h10]
      have := ih (u / 10) (by omega)
      simp
      omega
/-- The digits of a number that is not 0, laid ahead of a text. -/
theorem decLoop_is (a0 : Int) (h0 : -9223372036854775808 ≤ a0) (h1 : a0 ≤ 9223372036854775807) : ∀ (n : Nat) (m : Int) (acc : List UInt8), m.natAbs = n → n ≤ 9223372036854775808 → (m < 0 → a0 < 0) → -9223372036854775808 ≤ m → m ≤ 9223372036854775807 → acc.length + n ≤ 9223372036854775900 →
    (acc.length ≤ 100) → (∀ j, n / 10 ^ j ≠ 0 → acc.length + j < 30) →
    Ev (fun k => spec_DecText.l0 k a0 (mkB acc) m) (mkB ((if a0 < 0 then [45] else []) ++ ((if n = 0 then [] else Lib.decDigits n) ++ acc))) := by
  intro n
  induction n using Nat.strongRecOn with
  | _ n ih =>
    intro m acc hm hn hneg l0 l1 hl hl2 hj
    by_cases z : m = 0
    · have hn0 : n = 0 := by omega
      refine Ev.step (fun k => rfl) (ev_if_pos z ?_)
      rw [if_pos hn0]
      by_cases ha : a0 < 0
      · refine ev_if_pos ha (ev_if_pos (by rw [mkB_size]; omega) (ev_conv (ev_some fun _ => rfl) ?_))
        rw [if_pos ha]
        exact mkB_append [45] acc
      · exact ev_if_neg ha (ev_conv (ev_some fun _ => rfl) (by rw [if_neg ha]; rfl))
    · have hn0 : 0 < n := by omega
      have hj0 := hj 0 (by simp; omega)
      have hd : n % 10 < 10 := Nat.mod_lt _ (by omega)
      have rest : Ev (fun k => spec_DecText.l0 k a0 (mkB (UInt8.ofNat (48 + n % 10) :: acc)) (wrap64 (Int.tdiv m 10))) (mkB ((if a0 < 0 then [45] else []) ++ ((if n = 0 then [] else Lib.decDigits n) ++ acc))) := by
        have hq : (Int.tdiv m 10).natAbs = n / 10 := by rw [Int.natAbs_tdiv, hm]; rfl
        have hb : -9223372036854775808 ≤ Int.tdiv m 10 ∧ Int.tdiv m 10 ≤ 9223372036854775807 := by omega
        rw [wrap_id hb.1 hb.2]
        have hs : Int.tdiv m 10 < 0 → m < 0 := by
          intro h
          rcases Int.lt_or_le m 0 with g | g
          · exact g
          · have := Int.tdiv_nonneg g (show (0 : Int) ≤ 10 by decide)
            omega
        refine ev_conv (ih (n / 10) (by omega) (Int.tdiv m 10) (UInt8.ofNat (48 + n % 10) :: acc) hq (by omega) (fun h => hneg (hs h)) hb.1 hb.2 (by simp; omega) (by simp; omega) (fun j h => ?_)) ?_
        · have := hj (j + 1) (by rwa [Nat.pow_succ, Nat.mul_comm, ← Nat.div_div_eq_div_mul])
          simp
          omega
        · rw [if_neg (show ¬ n = 0 by omega), decDigits_pos hn0]
          simp
      have cut : ∀ (d : Int), d = ((n % 10 : Nat) : Int) → ((⟨#[48, 49, 50, 51, 52, 53, 54, 55, 56, 57]⟩ : ByteArray).extract d.toNat (wrap64 (d + 1)).toNat) ++ mkB acc = mkB (UInt8.ofNat (48 + n % 10) :: acc) ∧ ((⟨#[48, 49, 50, 51, 52, 53, 54, 55, 56, 57]⟩ : ByteArray).extract d.toNat (wrap64 (d + 1)).toNat).size + (mkB acc).size ≤ 9223372036854775807 := by
        intro d hd'
        rw [wrap_id (x := d + 1) (by omega) (by omega), show d.toNat = n % 10 by omega, show (d + 1).toNat = n % 10 + 1 by omega, digit_cut _ hd, mkB_append, mkB_size, mkB_size]
        exact ⟨rfl, by simp; omega⟩
      refine Ev.step (fun k => rfl) (ev_if_neg z ?_)
      have ht : (Int.tmod m 10).natAbs = n % 10 := by rw [Int.natAbs_tmod, hm]; rfl
      by_cases s : Int.tmod m 10 < 0
      · have e : wrap64 (-(Int.tmod m 10)) = ((n % 10 : Nat) : Int) := by rw [wrap_id (by omega) (by omega)]; omega
        obtain ⟨c1, c2⟩ := cut _ e
        refine ev_if_pos s (ev_if_pos (by omega) (ev_if_pos (by rw [wrap_id (x := wrap64 (-(Int.tmod m 10)) + 1) (by omega) (by omega)]; omega) (ev_if_pos (by rw [wrap_id (x := wrap64 (-(Int.tmod m 10)) + 1) (by omega) (by omega)]; omega) (ev_if_pos c2 ?_))))
        rw [c1]
        exact rest
      · have e : Int.tmod m 10 = ((n % 10 : Nat) : Int) := by omega
        obtain ⟨c1, c2⟩ := cut _ e
        refine ev_if_neg s (ev_if_pos (by omega) (ev_if_pos (by rw [wrap_id (x := Int.tmod m 10 + 1) (by omega) (by omega)]; omega) (ev_if_pos (by rw [wrap_id (x := Int.tmod m 10 + 1) (by omega) (by omega)]; omega) (ev_if_pos c2 ?_))))
        rw [c1]
        exact rest
theorem specDecText_is (a0 : Int) (h0 : -9223372036854775808 ≤ a0) (h1 : a0 ≤ 9223372036854775807) : Ev (fun k => spec_DecText.f k a0) (mkB (Lib.itoa a0)) := by
  by_cases z : a0 = 0
  · refine ev_if_pos z (ev_conv (ev_some fun _ => rfl) ?_)
    subst z
    rw [Lib.itoa, if_neg (by decide), Lib.decDigits, dif_pos (by decide)]
    rfl
  · refine ev_if_neg z (ev_conv (decLoop_is a0 h0 h1 a0.natAbs a0 [] rfl (by omega) (fun h => h) h0 h1 (by simp; omega) (by simp) (fun j h => ?_)) ?_)
    · have hlt : 10 ^ j ≤ a0.natAbs := by
        rcases Nat.lt_or_ge a0.natAbs (10 ^ j) with g | g
        · exact absurd (Nat.div_eq_of_lt g) h
        · exact g
      simp
      rcases Nat.lt_or_ge j 30 with g | g
      · exact g
      · have := Nat.pow_le_pow_right (show 0 < 10 by decide) g
        have e : (10 : Nat) ^ 30 = 1000000000000000000000000000000 := by decide
        omega
    · rw [if_neg (show ¬ a0.natAbs = 0 by omega), List.append_nil, Lib.itoa]
      by_cases s : a0 < 0
      · rw [if_pos s, if_pos s]
        rfl
      · rw [if_neg s, if_neg s, show a0.toNat = a0.natAbs by omega]
        rfl
theorem implDecText_is (a0 : Int) (h0 : -9223372036854775808 ≤ a0) (h1 : a0 ≤ 9223372036854775807) : impl_DecText.f a0 = some (mkB (Lib.itoa a0)) := by
  unfold impl_DecText.f strconv_Itoa.f
  rw [if_pos h0, if_pos h1]
  rfl
/-! #### a text in quotes -/
/-- Each quote is written twice. -/
def dbl (l : List UInt8) : List UInt8 := l.flatMap fun b => if b = 39 then [39, 39] else [b]
theorem dbl_nil : dbl [] = [] := rfl
theorem dbl_cons (b : UInt8) (l : List UInt8) : dbl (b :: l) = (if b = 39 then [39, 39] else [b]) ++ dbl l := by simp [dbl]
theorem dbl_len (l : List UInt8) : (dbl l).length ≤ 2 * l.length := by
  induction l with
  | nil => exact Nat.le_refl _
  | cons b l ih =>
    rw [dbl_cons, List.length_append, List.length_cons]
    by_cases h : b = 39
    · rw [if_pos h]
      simp
      omega
    · rw [if_neg h]
      simp
      omega
theorem cut_one (s : ByteArray) (i : Nat) (h : i < s.data.toList.length) : s.extract i (i + 1) = mkB [s.data.toList.getD i 0] := by
  rw [extract_mk, drop_cons_getD 0 h, show i + 1 - i = 1 by omega]
  rfl
theorem quoteLoop_is (s : ByteArray) (hs : s.data.toList.length ≤ 1000000000000) : ∀ (n i : Nat) (acc : List UInt8), s.data.toList.length - i = n → i ≤ s.data.toList.length → acc.length ≤ 2 * i + 1 → Ev (fun k => spec_l01Quote.l0 k s (mkB acc) i) (mkB (acc ++ (dbl (s.data.toList.drop i) ++ [39]))) := by
  have hz := size_data s
  intro n
  induction n with
  | zero =>
    intro i acc h1 h2 h3
    have e : i = s.data.toList.length := by omega
    refine Ev.step (fun k => rfl) (ev_if_neg (by omega) (ev_if_pos (by rw [mkB_size]; omega) (ev_conv (ev_some fun _ => rfl) ?_)))
    rw [e, List.drop_length, dbl_nil]
    exact mkB_append acc [39]
  | succ n ih =>
    intro i acc h1 h2 h3
    have hi : i < s.data.toList.length := by omega
    have hw : wrap64 ((i : Int) + 1) = ((i + 1 : Nat) : Int) := wrap_succ hi (by omega)
    have hc : s.extract (i : Int).toNat (wrap64 ((i : Int) + 1)).toNat = mkB [s.data.toList.getD i 0] := by
      rw [hw]
      exact cut_one s i hi
    have hb : bt s i = ((s.data.toList.getD i 0).toNat : Int) := bt_data s i
    refine Ev.step (fun k => rfl) (ev_if_pos (by omega) (ev_if_pos (by omega) (ev_if_pos (by rw [hw]; omega) (ev_if_pos (by rw [hw]; omega) ?_))))
    rw [hc, hb, drop_cons_getD 0 hi, dbl_cons]
    generalize s.data.toList.getD i 0 = c
    refine ev_if_pos (by rw [mkB_size, mkB_size, List.length_singleton]; omega) ?_
    rw [mkB_append]
    by_cases h : c = 39
    · refine ev_if_pos (by rw [h]; rfl) (ev_if_pos (by rw [mkB_size, List.length_append, List.length_singleton]; omega) ?_)
      rw [show (⟨#[39]⟩ : ByteArray) = mkB [39] from rfl, mkB_append, hw]
      refine ev_conv (ih (i + 1) _ (by omega) (by omega) (by simp; omega)) ?_
      rw [if_pos h, h]
      simp
    · refine ev_if_neg (fun g => h (UInt8.toNat.inj (by rw [show (39 : UInt8).toNat = 39 from rfl]; omega))) ?_
      rw [hw]
      refine ev_conv (ih (i + 1) _ (by omega) (by omega) (by simp; omega)) ?_
      rw [if_neg h]
      simp
theorem specQuote_is (s : ByteArray) (hs : s.data.toList.length ≤ 1000000000000) : Ev (fun k => spec_l01Quote.f k s) (mkB (39 :: (dbl s.data.toList ++ [39]))) :=
  quoteLoop_is s hs _ 0 [39] rfl (Nat.zero_le _) (Nat.le_refl _)
theorem replaceK_miss {old new : List UInt8} {k : Nat} {s : List UInt8} (h : Lib.index s old = -1) : Lib.replaceK old new k s = s := by
  cases k with
  | zero => rfl
  | succ k => rw [Lib.replaceK, if_pos (by rw [h]; rfl)]
theorem replaceK_dbl : ∀ (l : List UInt8) (k : Nat), l.count 39 ≤ k → Lib.replaceK [39] [39, 39] k l = dbl l
  | [], k, _ => by rw [replaceK_miss (by rfl)]; rfl
  | b :: l, k, hk => by
    rw [dbl_cons]
    by_cases h : b = 39
    · subst h
      rw [if_pos rfl]
      rw [List.count_cons_self] at hk
      cases k with
      | zero => omega
      | succ k =>
        rw [Lib.replaceK_hit [39] [39, 39] k (39 :: l) 0 (by rfl)]
        rw [show (39 :: l).drop (0 + [(39 : UInt8)].length) = l from rfl, replaceK_dbl l k (by omega)]
        rfl
    · rw [if_neg h]
      rw [List.count_cons_of_ne (fun g => h (by simpa using g))] at hk
      have ih := replaceK_dbl l k hk
      have hp : ([39] : List UInt8).isPrefixOf (b :: l) = false := by
        simp [List.isPrefixOf]
        exact fun g => h g.symm
      have hx : Lib.index (b :: l) [39] = if Lib.index l [39] == -1 then -1 else Lib.index l [39] + 1 := by
        rw [Lib.index, hp]
        rfl
      rw [← ih]
      cases k with
      | zero => rfl
      | succ k =>
        by_cases hm : Lib.index l [39] = -1
        · rw [replaceK_miss hm, replaceK_miss (by rw [hx, hm]; rfl)]
          rfl
        · have hge := Lib.index_ge l [39]
          obtain ⟨i, hi⟩ : ∃ i : Nat, Lib.index l [39] = i := ⟨(Lib.index l [39]).toNat, by omega⟩
          rw [Lib.replaceK_hit [39] [39, 39] k l i hi, Lib.replaceK_hit [39] [39, 39] k (b :: l) (i + 1) (by rw [hx, hi, if_neg (by intro g; have := beq_iff_eq.1 g; omega)]; rfl)]
          rw [show i + 1 + [(39 : UInt8)].length = (i + [(39 : UInt8)].length) + 1 by omega, List.drop_succ_cons, List.take_succ_cons]
          rfl
theorem replaceAll_dbl (l : List UInt8) : Lib.replaceAll l [39] [39, 39] = dbl l := by
  unfold Lib.replaceAll Lib.replace Lib.replaceNum
  rw [if_neg (by decide), if_pos (Or.inl (by decide)), Lib.count_one]
  exact replaceK_dbl l _ (Nat.le_refl _)
theorem replaceAll_is (s : ByteArray) (hs : s.data.toList.length ≤ 1000000) : strings_ReplaceAll.f s ⟨#[39]⟩ ⟨#[39, 39]⟩ = some (mkB (dbl s.data.toList)) := by
  have hz := size_data s
  unfold strings_ReplaceAll.f
  have h1 : 1 ≤ (⟨#[39]⟩ : ByteArray).size := Nat.le_refl 1
  have hc : Lib.countB s ⟨#[39]⟩ ≤ s.size := Lib.countB_le ⟨#[39]⟩ h1 s.size s (Nat.le_refl _)
  have h2 : (⟨#[39, 39]⟩ : ByteArray).size = 2 := rfl
  rw [if_pos ⟨by omega, h1, by rw [h2]; omega⟩]
  exact congrArg some (congrArg mkB (replaceAll_dbl s.data.toList))
/-- The text of a value. -/
def vtext (a b : Int) (s : List UInt8) : List UInt8 := if okV a b s then (if a = 0 then [110, 117, 108, 108] else if a = 1 then Lib.itoa b else if a = 3 then 39 :: (dbl s ++ [39]) else if b = 1 then [116, 114, 117, 101] else [102, 97, 108, 115, 101]) else []
theorem okV_kinds {a b : Int} {s : List UInt8} (h : okV a b s = true) : a = 0 ∨ a = 1 ∨ a = 2 ∨ (a = 3 ∧ s.length ≤ 100) := by
  unfold okV at h
  by_cases h0 : a = 0
  · exact Or.inl h0
  by_cases h1 : a = 1
  · exact Or.inr (Or.inl h1)
  by_cases h2 : a = 2
  · exact Or.inr (Or.inr (Or.inl h2))
  rw [if_neg h0, if_neg h1, if_neg h2] at h
  by_cases h3 : a = 3
  · rw [if_pos h3, Bool.and_eq_true] at h
    exact Or.inr (Or.inr (Or.inr ⟨h3, of_decide_eq_true h.2⟩))
  · rw [if_neg h3] at h
    cases h
theorem specValueText_is (a b : Int) (s : ByteArray) (h0 : -9223372036854775808 ≤ b) (h1 : b ≤ 9223372036854775807) : Ev (fun k => spec_ValueText.f k a b s) (mkB (vtext a b s.data.toList)) := by
  refine ev_bind0 (specValueOk_is a b s) ?_
  unfold vtext
  by_cases ok : okV a b s.data.toList = true
  · have hk := okV_kinds ok
    refine ev_if_pos ok ?_
    rw [if_pos ok]
    by_cases k0 : a = 0
    · refine ev_if_pos k0 (ev_conv (ev_some fun _ => rfl) ?_)
      rw [if_pos k0]
      rfl
    rw [if_neg k0]
    refine ev_if_neg k0 ?_
    by_cases k1 : a = 1
    · rw [if_pos k1]
      exact ev_if_pos k1 (Ev.bind (specDecText_is b h0 h1) (ev_some fun _ => rfl))
    rw [if_neg k1]
    refine ev_if_neg k1 ?_
    by_cases k3 : a = 3
    · rw [if_pos k3]
      exact ev_if_pos k3 (Ev.bind (specQuote_is s (by omega)) (ev_some fun _ => rfl))
    rw [if_neg k3]
    refine ev_if_neg k3 ?_
    by_cases n1 : b = 1
    · exact ev_if_pos n1 (ev_conv (ev_some fun _ => rfl) (by rw [if_pos n1]; rfl))
    · exact ev_if_neg n1 (ev_conv (ev_some fun _ => rfl) (by rw [if_neg n1]; rfl))
  · rw [if_neg ok]
    exact ev_if_neg ok (ev_some fun _ => rfl)
theorem implValueText_is (a b : Int) (s : ByteArray) (h0 : -9223372036854775808 ≤ b) (h1 : b ≤ 9223372036854775807) : impl_ValueText.f a b s = some (mkB (vtext a b s.data.toList)) := by
  unfold impl_ValueText.f
  rw [implValueOk_is, Option.bind_some]
  unfold vtext
  by_cases ok : okV a b s.data.toList = true
  · have hk := okV_kinds ok
    rw [if_pos ok, if_pos ok]
    by_cases k0 : a = 0
    · rw [if_pos k0, if_pos k0]
      rfl
    rw [if_neg k0, if_neg k0]
    by_cases k1 : a = 1
    · rw [if_pos k1, if_pos k1, implDecText_is b h0 h1]
      rfl
    rw [if_neg k1, if_neg k1]
    by_cases k2 : a = 2
    · rw [if_pos k2, if_neg (show ¬ a = 3 by omega)]
      unfold strconv_FormatBool_15.f strconv_FormatBool_20.f
      by_cases n1 : b = 1
      · subst n1
        rfl
      · rw [if_neg n1, show (b == 1) = false from beq_eq_false_iff_ne.2 n1]
        rfl
    have k3 : a = 3 ∧ s.data.toList.length ≤ 100 := by omega
    have hd := dbl_len s.data.toList
    rw [if_neg k2, if_pos k3.1, replaceAll_is s (by omega), Option.bind_some, if_pos (by rw [mkB_size]; omega), show (⟨#[39]⟩ : ByteArray) = mkB [39] from rfl, mkB_append, if_pos (by rw [mkB_size]; simp; omega), mkB_append]
    simp
  · rw [if_neg ok, if_neg ok]
    rfl
end Go.Proofs.YtmkllhkhiefbnaaDoor.PFnExactValueText
