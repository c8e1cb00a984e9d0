/- Plain lemmas on what the functions of the law FnExactPutValue compute: numbers and lists alone. -/
import Derived.Test.YtioemnmabbdfgaaPFnExactPutValuex0
import Derived.Test.YtioemnmabbdfgaaPFnExactPutValuex1
import Derived.Test.YtioemnmabbdfgaaPFnExactPutValuex2
import Derived.Test.YtioemnmabbdfgaaOpen
import Derived.Test.YtioemnmabbdfgaaZFnExactPutValue
namespace Go.Proofs.Ytioemnmabbdfgaa.PFnExactPutValue
open Go.RowKit Go.Proofs.YtioemnmabbdfgaaW.PrintWords Go.Proofs.YtioemnmabbdfgaaW.PrintLast Go.Proofs.YtioemnmabbdfgaaW.PrintMore Go.Proofs.YtioemnmabbdfgaaOpen Go.Proofs.Ytioemnmabbdfgaa.ZFnExactPutValue
set_option linter.unusedVariables false
set_option linter.unusedSimpArgs false
/-- What is left of the bound behind a text. -/
theorem szValue_is (a b : Int) (s : ByteArray) (l : Int) (h0 : 0 ≤ l) (h1 : l ≤ 1048576) (hs : s.size ≤ 9223372036854775807) : laws_szValue.f a b s l = some (lft l s.size) := by
  unfold laws_szValue.f
  rw [wrap_id (x := l - (s.size : Int)) (by omega) (by omega)]
  by_cases h : l - (s.size : Int) < 0
  · rw [if_pos h, lft_of_gt (by omega)]
  · rw [if_neg h, lft_of_le (by omega)]
/-- Is a value right. -/
def okV (a b : Int) (s : List UInt8) : Bool := if a = 0 then (b == 0 && s.isEmpty) else if a = 1 then s.isEmpty else if a = 2 then (decide (0 ≤ b ∧ b ≤ 1) && s.isEmpty) else if a = 3 then (b == 0 && decide (s.length ≤ 100)) else false
theorem specValueOk_is (a b : Int) (s : ByteArray) : spec_ValueOk.f a b s = some (okV a b s.data.toList) := by
  unfold spec_ValueOk.f okV spec_l01In.f
  have he : (s.toList == ([] : List UInt8)) = s.data.toList.isEmpty := by rw [toList_data]; cases s.data.toList <;> rfl
  rw [he, size_data]
  by_cases h0 : a = 0
  · by_cases hb : b = 0 <;> simp [h0, hb]
  · by_cases h1 : a = 1
    · simp [h1]
    · by_cases h2 : a = 2
      · by_cases hb : 0 ≤ b
        · by_cases hb' : b ≤ 1 <;> simp [h2, hb, hb']
        · simp [h2, hb]
      · by_cases h3 : a = 3
        · by_cases hb : b = 0
          · simp [h3, hb]
            omega
          · simp [h3, hb]
        · simp [h0, h1, h2, h3]
theorem implValueOk_is (a b : Int) (s : ByteArray) : impl_ValueOk.f a b s = some (okV a b s.data.toList) := specValueOk_is a b s
/-- The eight bytes of a number. -/
def be8 (n : Int) : List UInt8 := [u8 (n / 72057594037927936 % 256), u8 (n / 281474976710656 % 256), u8 (n / 1099511627776 % 256), u8 (n / 4294967296 % 256), u8 (n / 16777216 % 256), u8 (n / 65536 % 256), u8 (n / 256 % 256), u8 (n % 256)]
/-- The bytes of a value. -/
def encV (a b : Int) (s : List UInt8) : List UInt8 := if okV a b s = true then (if a = 1 then 1 :: be8 b else if a = 2 then [2, u8 b] else if a = 3 then 3 :: u8 (s.length : Int) :: s else [0]) else []
theorem specPutLoop_is (b : Int) (s : ByteArray) (hs : s.size ≤ 1048576) (a : Int) (ys : List Int) (hy : ys.length ≤ 10) : Ev (fun k => spec_PutValue.l0 k ys (IntKind.u64.wrap b) 72057594037927936 0 a b s) (mkB (ys.map u8 ++ be8 b) ++ s) := by
  have hu : IntKind.u64.wrap b = b % 18446744073709551616 := by simp [IntKind.wrap, IntKind.bits, IntKind.signed]
  rw [hu]
  obtain ⟨u, hu⟩ : ∃ u, u = b % 18446744073709551616 := ⟨_, rfl⟩
  rw [← hu]
  have hu0 : 0 ≤ u := by omega
  have hu1 : u < 18446744073709551616 := by omega
  have step : ∀ (zs : List Int) (w w' : Int) (i : Nat) (r : ByteArray), zs.length ≤ 20 → i < 8 → 0 < w → w < 18446744073709551616 → w' = w / 256 → Ev (fun k => spec_PutValue.l0 k (zs ++ [u / w % 256]) u w' ((i + 1 : Nat) : Int) a b s) r → Ev (fun k => spec_PutValue.l0 k zs u w (i : Int) a b s) r := by
    intro zs w w' i r hz hi hw hw2 hw' h
    refine Ev.step (fun k => rfl) (ev_if_pos (by omega) (ev_if_neg (by omega) (ev_if_pos (by omega) ?_)))
    have e1 : IntKind.u64.wrap (Int.tdiv u w) = u / w := by
      rw [Int.tdiv_eq_ediv_of_nonneg hu0]
      have h1 : 0 ≤ u / w := Int.ediv_nonneg hu0 (by omega)
      have h2 : u / w ≤ u := Int.ediv_le_self _ hu0
      simp only [IntKind.wrap, IntKind.bits, IntKind.signed]
      simp
      omega
    have e2 : IntKind.u64.wrap (Int.tdiv w 256) = w' := by
      rw [Int.tdiv_eq_ediv_of_nonneg (by omega), hw']
      simp only [IntKind.wrap, IntKind.bits, IntKind.signed]
      simp
      omega
    have e3 : Int.tmod (u / w) 256 % 256 = u / w % 256 := by
      rw [Int.tmod_eq_emod_of_nonneg (Int.ediv_nonneg hu0 (by omega))]
      omega
    have e4 : wrap64 ((i : Int) + 1) = ((i + 1 : Nat) : Int) := wrap_succ hi (by omega)
    rw [e1, e2, e3, e4]
    exact h
  refine step _ _ 281474976710656 0 _ (by omega) (by omega) (by omega) (by omega) (by omega) ?_
  refine step _ _ 1099511627776 1 _ (by simp; omega) (by omega) (by omega) (by omega) (by omega) ?_
  refine step _ _ 4294967296 2 _ (by simp; omega) (by omega) (by omega) (by omega) (by omega) ?_
  refine step _ _ 16777216 3 _ (by simp; omega) (by omega) (by omega) (by omega) (by omega) ?_
  refine step _ _ 65536 4 _ (by simp; omega) (by omega) (by omega) (by omega) (by omega) ?_
  refine step _ _ 256 5 _ (by simp; omega) (by omega) (by omega) (by omega) (by omega) ?_
  refine step _ _ 1 6 _ (by simp; omega) (by omega) (by omega) (by omega) (by omega) ?_
  refine step _ _ 0 7 _ (by simp; omega) (by omega) (by omega) (by omega) (by omega) ?_
  refine Ev.step (fun k => rfl) (ev_if_neg (by omega) (ev_if_pos ?_ (ev_conv (ev_some fun _ => rfl) ?_)))
  · rw [strOfNums_size]
    simp
    omega
  · rw [strOfNums_mk]
    congr 2
    simp only [List.map_append, List.map_cons, List.map_nil, List.append_assoc, List.cons_append, List.nil_append, be8]
    congr 1
    have g : ∀ x y : Int, x = y → u8 x = u8 y := fun x y h => by rw [h]
    simp only [List.cons.injEq, and_true]
    refine ⟨g _ _ (by omega), g _ _ (by omega), g _ _ (by omega), g _ _ (by omega), g _ _ (by omega), g _ _ (by omega), g _ _ (by omega), g _ _ (by omega)⟩
theorem specPutValue_is (a b : Int) (s : ByteArray) (hs : s.size ≤ 1048576) : Ev (fun k => spec_PutValue.f k a b s) (mkB (encV a b s.data.toList)) := by
  refine Ev.congr (fun k => rfl) (ev_bind0 (specValueOk_is a b s) ?_)
  unfold encV
  cases hk : okV a b s.data.toList with
  | false => exact ev_if_neg (by simp) (ev_conv (ev_some fun _ => rfl) rfl)
  | true =>
    refine ev_if_pos rfl (ev_bind0 rfl ?_)
    simp only [if_true]
    by_cases h1 : a = 1
    · subst h1
      have hs0 : s.data.toList = [] := by simpa [okV] using hk
      refine ev_if_pos rfl (ev_conv (specPutLoop_is b s hs 1 _ (by simp)) ?_)
      rw [← mkB_of s, hs0, mkB_append]
      rfl
    · refine ev_if_neg h1 ?_
      rw [if_neg h1]
      by_cases h2 : a = 2
      · subst h2
        have hs0 : s.data.toList = [] := by have := hk; simp [okV] at this; simpa using this.2
        have hb : 0 ≤ b ∧ b ≤ 1 := by have := hk; simp [okV] at this; exact this.1
        refine ev_if_pos rfl (ev_if_pos (by simp) (ev_bind0 rfl (ev_if_pos (by rw [strOfNums_size]; simp; omega) (ev_conv (ev_some fun _ => rfl) ?_))))
        rw [if_pos rfl, strOfNums_mk, ← mkB_of s, hs0, mkB_append]
        have e : b % 256 = b := by omega
        rw [e]
        rfl
      · refine ev_if_neg h2 ?_
        rw [if_neg h2]
        by_cases h3 : a = 3
        · subst h3
          have hl : s.data.toList.length ≤ 100 := by have := hk; simp [okV] at this; simpa using this.2
          refine ev_if_pos rfl (ev_if_pos (by simp) (ev_bind0 rfl (ev_if_pos (by rw [strOfNums_size]; simp; omega) (ev_conv (ev_some fun _ => rfl) ?_))))
          rw [if_pos rfl, strOfNums_mk]
          have e : ((s.size : Int)) % 256 = (s.data.toList.length : Int) := by rw [size_data]; omega
          rw [e]
          conv => lhs; rw [← mkB_of s]
          rw [mkB_append]
          rfl
        · refine ev_if_neg h3 (ev_if_pos (by rw [strOfNums_size]; simp; omega) (ev_conv (ev_some fun _ => rfl) ?_))
          rw [if_neg h3]
          have h0 : a = 0 := by
            by_cases h0 : a = 0
            · exact h0
            · simp [okV, h0, h1, h2, h3] at hk
          have hs0 : s.data.toList = [] := by have := hk; simp [okV, h0] at this; simpa using this.2
          rw [strOfNums_mk, ← mkB_of s, hs0, mkB_append, h0]
          rfl
theorem big_round (n m : Int) (xs : List Int) (hm : m = (xs.length : Int)) (hl : xs.length ≤ 8) (i : Nat) (hi : i < xs.length) {r : ByteArray} (h : Ev (fun k => impl_big.l0 k n m (xs.set (xs.length - 1 - i) ((n / 2 ^ (8 * i)) % 256)) (xs.length : Int) ((i + 1 : Nat) : Int)) r) : Ev (fun k => impl_big.l0 k n m xs (xs.length : Int) (i : Int)) r := by
  have e1 : wrap64 (8 * (i : Int)) = ((8 * i : Nat) : Int) := by rw [wrap_id (by omega) (by omega)]; omega
  have e2 : wrap64 (wrap64 (m - 1) - (i : Int)) = ((xs.length - 1 - i : Nat) : Int) := by rw [wrap_id (x := m - 1) (by omega) (by omega), wrap_id (by omega) (by omega)]; omega
  have e3 : shr .i64 n ((8 * i : Nat) : Int) = n / 2 ^ (8 * i) := by unfold shr; rw [Int.toNat_natCast, Nat.min_eq_left (by show 8 * i ≤ 64; omega)]
  have e4 : wrap64 ((i : Int) + 1) = ((i + 1 : Nat) : Int) := wrap_succ hi (by omega)
  refine Ev.step (fun k => rfl) (ev_if_pos (by omega) ?_)
  rw [e1, e2]
  refine ev_if_pos (by omega) (ev_if_pos (by omega) (ev_if_pos (by omega) ?_))
  rw [e3, e4, Int.toNat_natCast]
  exact h
theorem big_end (n m : Int) (xs : List Int) : Ev (fun k => impl_big.l0 k n m xs (xs.length : Int) (xs.length : Int)) (strOfNums xs) :=
  Ev.step (fun k => rfl) (ev_if_neg (by omega) (ev_some fun _ => rfl))
theorem big1_is (n : Int) : Ev (fun k => impl_big.f k n 1) (mkB [u8 (n % 256)]) := by
  have c : Ev (fun k => impl_big.l0 k n 1 [0] (([0] : List Int).length : Int) ((0 : Nat) : Int)) (mkB [u8 (n % 256)]) := by
    refine big_round n 1 [0] (by simp) (by simp) 0 (by simp) ?_
    have e := big_end n 1 (([0] : List Int).set (([0] : List Int).length - 1 - 0) ((n / 2 ^ (8 * 0)) % 256))
    rw [strOfNums_mk] at e
    simpa using e
  refine Ev.congr (fun k => ?_) c
  unfold impl_big.f
  rw [if_pos (by omega), if_pos (by omega)]
  rfl
theorem big8_is (n : Int) : Ev (fun k => impl_big.f k n 8) (mkB [u8 (n / 72057594037927936 % 256), u8 (n / 281474976710656 % 256), u8 (n / 1099511627776 % 256), u8 (n / 4294967296 % 256), u8 (n / 16777216 % 256), u8 (n / 65536 % 256), u8 (n / 256 % 256), u8 (n % 256)]) := by
  have c : ∀ l : List Int, l = [0, 0, 0, 0, 0, 0, 0, 0] → Ev (fun k => impl_big.l0 k n 8 l (l.length : Int) ((0 : Nat) : Int)) (mkB [u8 (n / 72057594037927936 % 256), u8 (n / 281474976710656 % 256), u8 (n / 1099511627776 % 256), u8 (n / 4294967296 % 256), u8 (n / 16777216 % 256), u8 (n / 65536 % 256), u8 (n / 256 % 256), u8 (n % 256)]) := by
    have rd : ∀ (xs ys : List Int) (i j : Nat) (r : ByteArray), xs.length = 8 → i < 8 → j = i + 1 → ys = xs.set (7 - i) ((n / 2 ^ (8 * i)) % 256) → Ev (fun k => impl_big.l0 k n 8 ys (ys.length : Int) (j : Int)) r → Ev (fun k => impl_big.l0 k n 8 xs (xs.length : Int) (i : Int)) r := by
      intro xs ys i j r hl hi hj hy h
      subst hj hy
      refine big_round n 8 xs (by rw [hl]; rfl) (by omega) i (by omega) ?_
      rw [List.length_set] at h
      rw [hl] at h ⊢
      exact h
    intro l hl
    subst hl
    refine rd _ [0, 0, 0, 0, 0, 0, 0, n % 256] 0 1 _ rfl (by omega) rfl (by simp) ?_
    refine rd _ [0, 0, 0, 0, 0, 0, n / 256 % 256, n % 256] 1 2 _ rfl (by omega) rfl (by simp) ?_
    refine rd _ [0, 0, 0, 0, 0, n / 65536 % 256, n / 256 % 256, n % 256] 2 3 _ rfl (by omega) rfl (by simp) ?_
    refine rd _ [0, 0, 0, 0, n / 16777216 % 256, n / 65536 % 256, n / 256 % 256, n % 256] 3 4 _ rfl (by omega) rfl (by simp) ?_
    refine rd _ [0, 0, 0, n / 4294967296 % 256, n / 16777216 % 256, n / 65536 % 256, n / 256 % 256, n % 256] 4 5 _ rfl (by omega) rfl (by simp) ?_
    refine rd _ [0, 0, n / 1099511627776 % 256, n / 4294967296 % 256, n / 16777216 % 256, n / 65536 % 256, n / 256 % 256, n % 256] 5 6 _ rfl (by omega) rfl (by simp) ?_
    refine rd _ [0, n / 281474976710656 % 256, n / 1099511627776 % 256, n / 4294967296 % 256, n / 16777216 % 256, n / 65536 % 256, n / 256 % 256, n % 256] 6 7 _ rfl (by omega) rfl (by simp) ?_
    refine rd _ [n / 72057594037927936 % 256, n / 281474976710656 % 256, n / 1099511627776 % 256, n / 4294967296 % 256, n / 16777216 % 256, n / 65536 % 256, n / 256 % 256, n % 256] 7 8 _ rfl (by omega) rfl (by simp) ?_
    exact big_end n 8 _
  refine Ev.congr (fun k => ?_) (c (List.replicate 8 0) rfl)
  unfold impl_big.f
  rw [if_pos (by omega), if_pos (by omega)]
  rfl
theorem implPutValue_is (a b : Int) (s : ByteArray) (hs : s.size ≤ 1048576) : Ev (fun k => impl_PutValue.f k a b s) (mkB (encV a b s.data.toList)) := by
  refine Ev.congr (fun k => rfl) (ev_bind0 (implValueOk_is a b s) ?_)
  unfold encV
  cases hk : okV a b s.data.toList with
  | false => exact ev_if_neg (by simp) (ev_conv (ev_some fun _ => rfl) rfl)
  | true =>
    refine ev_if_pos rfl (Ev.bind (big1_is a) ?_)
    simp only [if_true]
    by_cases h1 : a = 1
    · subst h1
      refine ev_if_pos rfl (Ev.bind (big8_is b) (ev_if_pos (by simp [mkB_size]) (ev_conv (ev_some fun _ => rfl) ?_)))
      rw [mkB_append]
      rfl
    · refine ev_if_neg h1 ?_
      rw [if_neg h1]
      by_cases h2 : a = 2
      · subst h2
        have hb : 0 ≤ b ∧ b ≤ 1 := by have := hk; simp [okV] at this; exact this.1
        refine ev_if_pos rfl (Ev.bind (big1_is b) (ev_if_pos (by simp [mkB_size]) (ev_conv (ev_some fun _ => rfl) ?_)))
        have e : b % 256 = b := by omega
        rw [if_pos rfl, mkB_append, e]
        rfl
      · refine ev_if_neg h2 ?_
        rw [if_neg h2]
        by_cases h3 : a = 3
        · subst h3
          have hl : s.data.toList.length ≤ 100 := by have := hk; simp [okV] at this; simpa using this.2
          refine ev_if_pos rfl (Ev.bind (big1_is (s.size : Int)) (ev_if_pos (by simp [mkB_size]) (ev_if_pos (by simp [mkB_size, mkB_append]; omega) (ev_conv (ev_some fun _ => rfl) ?_))))
          have e : ((s.size : Int)) % 256 = (s.data.toList.length : Int) := by rw [size_data]; omega
          rw [if_pos rfl, e]
          conv => lhs; rw [← mkB_of s]
          rw [mkB_append, mkB_append]
          rfl
        · refine ev_if_neg h3 (ev_conv (ev_some fun _ => rfl) ?_)
          have h0 : a = 0 := by
            by_cases h0 : a = 0
            · exact h0
            · simp [okV, h0, h1, h2, h3] at hk
          rw [if_neg h3, h0]
          rfl
end Go.Proofs.Ytioemnmabbdfgaa.PFnExactPutValue
