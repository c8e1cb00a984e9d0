/- Plain lemmas on what the functions of the law FnValue compute: numbers and lists alone. -/
import Derived.Test.YthgdmdabdlgliaaDoorPFnValuex0
import Derived.Test.YthgdmdabdlgliaaDoorPFnValuex1
import Derived.Test.YthgdmdabdlgliaaDoorPFnValuex2
import Derived.Test.YthgdmdabdlgliaaDoorPFnValuex3
import Derived.Test.YthgdmdabdlgliaaDoorPFnValuex4
import Derived.Test.YthgdmdabdlgliaaDoorPFnValuex5
import Derived.Test.YthgdmdabdlgliaaDoorPFnValuex6
import Derived.Test.YthgdmdabdlgliaaDoorPFnValuex7
import Derived.Test.YthgdmdabdlgliaaDoorPFnValuex8
import Derived.Test.YthgdmdabdlgliaaDoorPFnValuex9
import Derived.Test.YthgdmdabdlgliaaDoorOpen
import Derived.Test.YthgdmdabdlgliaaDoorZFnValue
namespace Go.Proofs.YthgdmdabdlgliaaDoor.PFnValue
open Go.RowKit Go.Proofs.YthgdmdabdlgliaaDoorW.PrintWords Go.Proofs.YthgdmdabdlgliaaDoorW.PrintLast Go.Proofs.YthgdmdabdlgliaaDoorW.PrintMore Go.Proofs.YthgdmdabdlgliaaDoorOpen Go.Proofs.YthgdmdabdlgliaaDoor.ZFnValue
set_option linter.unusedVariables false
set_option linter.unusedSimpArgs false
theorem cmpBytes_is (l m : List UInt8) : Go.Lib.compareBytes l m = if Op.bytesLess l m = true then -1 else if (Op.bytesLess l m || l == m) = true then 0 else 1 := by
  induction l generalizing m with
  | nil => cases m <;> simp [Go.Lib.compareBytes, Op.bytesLess]
  | cons a l ih =>
    cases m with
    | nil => simp [Go.Lib.compareBytes, Op.bytesLess]
    | cons b m =>
      simp only [Go.Lib.compareBytes, Op.bytesLess]
      by_cases h : a < b
      · simp [h]
      · by_cases h' : b < a
        · have hne : ¬ a = b := by rintro rfl; exact absurd h' h
          simp [h, h', hne]
        · have e : a = b := by
            apply UInt8.toNat_inj.1
            have h1 : ¬ a.toNat < b.toNat := h
            have h2 : ¬ b.toNat < a.toNat := h'
            omega
          subst e
          simp only [h, if_false, ih]
          simp
def cmpI (a b : Int) : Int := if a < b then -1 else if b < a then 1 else 0
theorem compare_int_is (a b : Int) : cmp_Compare_int.f a b = some (cmpI a b) := by
  unfold cmp_Compare_int.f cmp_isNaN_int.f cmpI
  simp only [Option.bind_some, bne_self_eq_false, Bool.false_eq_true, if_false, gt_iff_lt]
  by_cases h : a < b
  · simp [h]
  · by_cases h' : b < a <;> simp [h, h']
theorem or_three (k : Nat) (a b c : Int) : cmp_Or_int.f (k + 4) [a, b, c] = some (if a = 0 then (if b = 0 then c else b) else a) := by
  have w0 : wrap64 (0 + 1) = 1 := by unfold wrap64; omega
  have w1 : wrap64 (1 + 1) = 2 := by unfold wrap64; omega
  have w2 : wrap64 (2 + 1) = 3 := by unfold wrap64; omega
  unfold cmp_Or_int.f
  simp only [cmp_Or_int.l0, List.length_cons, List.length_nil, w0, w1, w2, rd]
  by_cases ha : a = 0
  · by_cases hb : b = 0
    · by_cases hc : c = 0
      · simp [ha, hb, hc]
      · simp [ha, hb, hc]
    · simp [ha, hb]
  · simp [ha]
theorem compareValue_is (k : Nat) (a b : Int) (s : ByteArray) (a' b' : Int) (s' : ByteArray) : impl_CompareValue.f (k + 4) a b s a' b' s' = some (cmpV a b s a' b' s') := by
  unfold impl_CompareValue.f strings_Compare.f bytealg_CompareString.f
  simp only [compare_int_is, Option.bind_some, or_three, cmpBytes_is]
  unfold cmpV cmpI
  have hd : ∀ z : ByteArray, z.toList = z.data.toList := fun z => ByteArray.toList_eq z
  rw [hd, hd]
  by_cases h1 : a < a'
  · simp [h1]
  · by_cases h2 : a' < a
    · simp [h1, h2]
    · by_cases h3 : b < b'
      · simp [h1, h2, h3]
      · by_cases h4 : b' < b
        · simp [h1, h2, h3, h4]
        · simp [h1, h2, h3, h4]
/-- Is a value right. -/
def okV (a b : Int) (s : List UInt8) : Bool := if a = 0 then (b == 0 && s.isEmpty) else if a = 1 then s.isEmpty else if a = 2 then (decide (0 ≤ b ∧ b ≤ 1) && s.isEmpty) else if a = 3 then (b == 0 && decide (s.length ≤ 100)) else false
theorem specValueOk_is (a b : Int) (s : ByteArray) : spec_ValueOk.f a b s = some (okV a b s.data.toList) := by
  unfold spec_ValueOk.f okV spec_l01In.f
  have he : (s.toList == ([] : List UInt8)) = s.data.toList.isEmpty := by rw [toList_data]; cases s.data.toList <;> rfl
  rw [he, size_data]
  by_cases h0 : a = 0
  · by_cases hb : b = 0 <;> simp [h0, hb]
  · by_cases h1 : a = 1
    · simp [h1]
    · by_cases h2 : a = 2
      · by_cases hb : 0 ≤ b
        · by_cases hb' : b ≤ 1 <;> simp [h2, hb, hb']
        · simp [h2, hb]
      · by_cases h3 : a = 3
        · by_cases hb : b = 0
          · simp [h3, hb]
            omega
          · simp [h3, hb]
        · simp [h0, h1, h2, h3]
theorem implValueOk_is (a b : Int) (s : ByteArray) : impl_ValueOk.f a b s = some (okV a b s.data.toList) := specValueOk_is a b s
/-- The eight bytes of a number. -/
def be8 (n : Int) : List UInt8 := [u8 (n / 72057594037927936 % 256), u8 (n / 281474976710656 % 256), u8 (n / 1099511627776 % 256), u8 (n / 4294967296 % 256), u8 (n / 16777216 % 256), u8 (n / 65536 % 256), u8 (n / 256 % 256), u8 (n % 256)]
/-- The bytes of a value. -/
def encV (a b : Int) (s : List UInt8) : List UInt8 := if okV a b s = true then (if a = 1 then 1 :: be8 b else if a = 2 then [2, u8 b] else if a = 3 then 3 :: u8 (s.length : Int) :: s else [0]) else []
theorem specPutLoop_is (b : Int) (s : ByteArray) (hs : s.size ≤ 1048576) (a : Int) (ys : List Int) (hy : ys.length ≤ 10) : Ev (fun k => spec_PutValue.l0 k ys (IntKind.u64.wrap b) 72057594037927936 0 a b s) (mkB (ys.map u8 ++ be8 b) ++ s) := by
  have hu : IntKind.u64.wrap b = b % 18446744073709551616 := by simp [IntKind.wrap, IntKind.bits, IntKind.signed]
  rw [hu]
  obtain ⟨u, hu⟩ : ∃ u, u = b % 18446744073709551616 := ⟨_, rfl⟩
  rw [← hu]
  have hu0 : 0 ≤ u := by omega
  have hu1 : u < 18446744073709551616 := by omega
  have step : ∀ (zs : List Int) (w w' : Int) (i : Nat) (r : ByteArray), zs.length ≤ 20 → i < 8 → 0 < w → w < 18446744073709551616 → w' = w / 256 → Ev (fun k => spec_PutValue.l0 k (zs ++ [u / w % 256]) u w' ((i + 1 : Nat) : Int) a b s) r → Ev (fun k => spec_PutValue.l0 k zs u w (i : Int) a b s) r := by
    intro zs w w' i r hz hi hw hw2 hw' h
    refine Ev.step (fun k => rfl) (ev_if_pos (by omega) (ev_if_neg (by omega) (ev_if_pos (by omega) ?_)))
    have e1 : IntKind.u64.wrap (Int.tdiv u w) = u / w := by
      rw [Int.tdiv_eq_ediv_of_nonneg hu0]
      have h1 : 0 ≤ u / w := Int.ediv_nonneg hu0 (by omega)
      have h2 : u / w ≤ u := Int.ediv_le_self _ hu0
      simp only [IntKind.wrap, IntKind.bits, IntKind.signed]
      simp
      omega
    have e2 : IntKind.u64.wrap (Int.tdiv w 256) = w' := by
      rw [Int.tdiv_eq_ediv_of_nonneg (by omega), hw']
      simp only [IntKind.wrap, IntKind.bits, IntKind.signed]
      simp
      omega
    have e3 : Int.tmod (u / w) 256 % 256 = u / w % 256 := by
      rw [Int.tmod_eq_emod_of_nonneg (Int.ediv_nonneg hu0 (by omega))]
      omega
    have e4 : wrap64 ((i : Int) + 1) = ((i + 1 : Nat) : Int) := wrap_succ hi (by omega)
    rw [e1, e2, e3, e4]
    exact h
  refine step _ _ 281474976710656 0 _ (by omega) (by omega) (by omega) (by omega) (by omega) ?_
  refine step _ _ 1099511627776 1 _ (by simp; omega) (by omega) (by omega) (by omega) (by omega) ?_
  refine step _ _ 4294967296 2 _ (by simp; omega) (by omega) (by omega) (by omega) (by omega) ?_
  refine step _ _ 16777216 3 _ (by simp; omega) (by omega) (by omega) (by omega) (by omega) ?_
  refine step _ _ 65536 4 _ (by simp; omega) (by omega) (by omega) (by omega) (by omega) ?_
  refine step _ _ 256 5 _ (by simp; omega) (by omega) (by omega) (by omega) (by omega) ?_
  refine step _ _ 1 6 _ (by simp; omega) (by omega) (by omega) (by omega) (by omega) ?_
  refine step _ _ 0 7 _ (by simp; omega) (by omega) (by omega) (by omega) (by omega) ?_
  refine Ev.step (fun k => rfl) (ev_if_neg (by omega) (ev_if_pos ?_ (ev_conv (ev_some fun _ => rfl) ?_)))
  · rw [strOfNums_size]
    simp
    omega
  · rw [strOfNums_mk]
    congr 2
    simp only [List.map_append, List.map_cons, List.map_nil, List.append_assoc, List.cons_append, List.nil_append, be8]
    congr 1
    have g : ∀ x y : Int, x = y → u8 x = u8 y := fun x y h => by rw [h]
    simp only [List.cons.injEq, and_true]
    refine ⟨g _ _ (by omega), g _ _ (by omega), g _ _ (by omega), g _ _ (by omega), g _ _ (by omega), g _ _ (by omega), g _ _ (by omega), g _ _ (by omega)⟩
theorem specPutValue_is (a b : Int) (s : ByteArray) (hs : s.size ≤ 1048576) : Ev (fun k => spec_PutValue.f k a b s) (mkB (encV a b s.data.toList)) := by
  refine Ev.congr (fun k => rfl) (ev_bind0 (specValueOk_is a b s) ?_)
  unfold encV
  cases hk : okV a b s.data.toList with
  | false => exact ev_if_neg (by simp) (ev_conv (ev_some fun _ => rfl) rfl)
  | true =>
    refine ev_if_pos rfl (ev_bind0 rfl ?_)
    simp only [if_true]
    by_cases h1 : a = 1
    · subst h1
      have hs0 : s.data.toList = [] := by simpa [okV] using hk
      refine ev_if_pos rfl (ev_conv (specPutLoop_is b s hs 1 _ (by simp)) ?_)
      rw [← mkB_of s, hs0, mkB_append]
      rfl
    · refine ev_if_neg h1 ?_
      rw [if_neg h1]
      by_cases h2 : a = 2
      · subst h2
        have hs0 : s.data.toList = [] := by have := hk; simp [okV] at this; simpa using this.2
        have hb : 0 ≤ b ∧ b ≤ 1 := by have := hk; simp [okV] at this; exact this.1
        refine ev_if_pos rfl (ev_if_pos (by simp) (ev_bind0 rfl (ev_if_pos (by rw [strOfNums_size]; simp; omega) (ev_conv (ev_some fun _ => rfl) ?_))))
        rw [if_pos rfl, strOfNums_mk, ← mkB_of s, hs0, mkB_append]
        have e : b % 256 = b := by omega
        rw [e]
        rfl
      · refine ev_if_neg h2 ?_
        rw [if_neg h2]
        by_cases h3 : a = 3
        · subst h3
          have hl : s.data.toList.length ≤ 100 := by have := hk; simp [okV] at this; simpa using this.2
          refine ev_if_pos rfl (ev_if_pos (by simp) (ev_bind0 rfl (ev_if_pos (by rw [strOfNums_size]; simp; omega) (ev_conv (ev_some fun _ => rfl) ?_))))
          rw [if_pos rfl, strOfNums_mk]
          have e : ((s.size : Int)) % 256 = (s.data.toList.length : Int) := by rw [size_data]; omega
          rw [e]
          conv => lhs; rw [← mkB_of s]
          rw [mkB_append]
          rfl
        · refine ev_if_neg h3 (ev_if_pos (by rw [strOfNums_size]; simp; omega) (ev_conv (ev_some fun _ => rfl) ?_))
          rw [if_neg h3]
          have h0 : a = 0 := by
            by_cases h0 : a = 0
            · exact h0
            · simp [okV, h0, h1, h2, h3] at hk
          have hs0 : s.data.toList = [] := by have := hk; simp [okV, h0] at this; simpa using this.2
          rw [strOfNums_mk, ← mkB_of s, hs0, mkB_append, h0]
          rfl
theorem big_round (n m : Int) (xs : List Int) (hm : m = (xs.length : Int)) (hl : xs.length ≤ 8) (i : Nat) (hi : i < xs.length) {r : ByteArray} (h : Ev (fun k => impl_big.l0 k n m (xs.set (xs.length - 1 - i) ((n / 2 ^ (8 * i)) % 256)) (xs.length : Int) ((i + 1 : Nat) : Int)) r) : Ev (fun k => impl_big.l0 k n m xs (xs.length : Int) (i : Int)) r := by
  have e1 : wrap64 (8 * (i : Int)) = ((8 * i : Nat) : Int) := by rw [wrap_id (by omega) (by omega)]; omega
  have e2 : wrap64 (wrap64 (m - 1) - (i : Int)) = ((xs.length - 1 - i : Nat) : Int) := by rw [wrap_id (x := m - 1) (by omega) (by omega), wrap_id (by omega) (by omega)]; omega
  have e3 : shr .i64 n ((8 * i : Nat) : Int) = n / 2 ^ (8 * i) := by unfold shr; rw [Int.toNat_natCast, Nat.min_eq_left (by show 8 * i ≤ 64; omega)]
  have e4 : wrap64 ((i : Int) + 1) = ((i + 1 : Nat) : Int) := wrap_succ hi (by omega)
  refine Ev.step (fun k => rfl) (ev_if_pos (by omega) ?_)
  rw [e1, e2]
  refine ev_if_pos (by omega) (ev_if_pos (by omega) (ev_if_pos (by omega) ?_))
  rw [e3, e4, Int.toNat_natCast]
  exact h
theorem big_end (n m : Int) (xs : List Int) : Ev (fun k => impl_big.l0 k n m xs (xs.length : Int) (xs.length : Int)) (strOfNums xs) :=
  Ev.step (fun k => rfl) (ev_if_neg (by omega) (ev_some fun _ => rfl))
theorem big1_is (n : Int) : Ev (fun k => impl_big.f k n 1) (mkB [u8 (n % 256)]) := by
  have c : Ev (fun k => impl_big.l0 k n 1 [0] (([0] : List Int).length : Int) ((0 : Nat) : Int)) (mkB [u8 (n % 256)]) := by
    refine big_round n 1 [0] (by simp) (by simp) 0 (by simp) ?_
    have e := big_end n 1 (([0] : List Int).set (([0] : List Int).length - 1 - 0) ((n / 2 ^ (8 * 0)) % 256))
    rw [strOfNums_mk] at e
    simpa using e
  refine Ev.congr (fun k => ?_) c
  unfold impl_big.f
  rw [if_pos (by omega), if_pos (by omega)]
  rfl
theorem big8_is (n : Int) : Ev (fun k => impl_big.f k n 8) (mkB [u8 (n / 72057594037927936 % 256), u8 (n / 281474976710656 % 256), u8 (n / 1099511627776 % 256), u8 (n / 4294967296 % 256), u8 (n / 16777216 % 256), u8 (n / 65536 % 256), u8 (n / 256 % 256), u8 (n % 256)]) := by
  have c : ∀ l : List Int, l = [0, 0, 0, 0, 0, 0, 0, 0] → Ev (fun k => impl_big.l0 k n 8 l (l.length : Int) ((0 : Nat) : Int)) (mkB [u8 (n / 72057594037927936 % 256), u8 (n / 281474976710656 % 256), u8 (n / 1099511627776 % 256), u8 (n / 4294967296 % 256), u8 (n / 16777216 % 256), u8 (n / 65536 % 256), u8 (n / 256 % 256), u8 (n % 256)]) := by
    have rd : ∀ (xs ys : List Int) (i j : Nat) (r : ByteArray), xs.length = 8 → i < 8 → j = i + 1 → ys = xs.set (7 - i) ((n / 2 ^ (8 * i)) % 256) → Ev (fun k => impl_big.l0 k n 8 ys (ys.length : Int) (j : Int)) r → Ev (fun k => impl_big.l0 k n 8 xs (xs.length : Int) (i : Int)) r := by
      intro xs ys i j r hl hi hj hy h
      subst hj hy
      refine big_round n 8 xs (by rw [hl]; rfl) (by omega) i (by omega) ?_
      rw [List.length_set] at h
      rw [hl] at h ⊢
      exact h
    intro l hl
    subst hl
    refine rd _ [0, 0, 0, 0, 0, 0, 0, n % 256] 0 1 _ rfl (by omega) rfl (by simp) ?_
    refine rd _ [0, 0, 0, 0, 0, 0, n / 256 % 256, n % 256] 1 2 _ rfl (by omega) rfl (by simp) ?_
    refine rd _ [0, 0, 0, 0, 0, n / 65536 % 256, n / 256 % 256, n % 256] 2 3 _ rfl (by omega) rfl (by simp) ?_
    refine rd _ [0, 0, 0, 0, n / 16777216 % 256, n / 65536 % 256, n / 256 % 256, n % 256] 3 4 _ rfl (by omega) rfl (by simp) ?_
    refine rd _ [0, 0, 0, n / 4294967296 % 256, n / 16777216 % 256, n / 65536 % 256, n / 256 % 256, n % 256] 4 5 _ rfl (by omega) rfl (by simp) ?_
    refine rd _ [0, 0, n / 1099511627776 % 256, n / 4294967296 % 256, n / 16777216 % 256, n / 65536 % 256, n / 256 % 256, n % 256] 5 6 _ rfl (by omega) rfl (by simp) ?_
    refine rd _ [0, n / 281474976710656 % 256, n / 1099511627776 % 256, n / 4294967296 % 256, n / 16777216 % 256, n / 65536 % 256, n / 256 % 256, n % 256] 6 7 _ rfl (by omega) rfl (by simp) ?_
    refine rd _ [n / 72057594037927936 % 256, n / 281474976710656 % 256, n / 1099511627776 % 256, n / 4294967296 % 256, n / 16777216 % 256, n / 65536 % 256, n / 256 % 256, n % 256] 7 8 _ rfl (by omega) rfl (by simp) ?_
    exact big_end n 8 _
  refine Ev.congr (fun k => ?_) (c (List.replicate 8 0) rfl)
  unfold impl_big.f
  rw [if_pos (by omega), if_pos (by omega)]
  rfl
theorem implPutValue_is (a b : Int) (s : ByteArray) (hs : s.size ≤ 1048576) : Ev (fun k => impl_PutValue.f k a b s) (mkB (encV a b s.data.toList)) := by
  refine Ev.congr (fun k => rfl) (ev_bind0 (implValueOk_is a b s) ?_)
  unfold encV
  cases hk : okV a b s.data.toList with
  | false => exact ev_if_neg (by simp) (ev_conv (ev_some fun _ => rfl) rfl)
  | true =>
    refine ev_if_pos rfl (Ev.bind (big1_is a) ?_)
    simp only [if_true]
    by_cases h1 : a = 1
    · subst h1
      refine ev_if_pos rfl (Ev.bind (big8_is b) (ev_if_pos (by simp [mkB_size]) (ev_conv (ev_some fun _ => rfl) ?_)))
      rw [mkB_append]
      rfl
    · refine ev_if_neg h1 ?_
      rw [if_neg h1]
      by_cases h2 : a = 2
      · subst h2
        have hb : 0 ≤ b ∧ b ≤ 1 := by have := hk; simp [okV] at this; exact this.1
        refine ev_if_pos rfl (Ev.bind (big1_is b) (ev_if_pos (by simp [mkB_size]) (ev_conv (ev_some fun _ => rfl) ?_)))
        have e : b % 256 = b := by omega
        rw [if_pos rfl, mkB_append, e]
        rfl
      · refine ev_if_neg h2 ?_
        rw [if_neg h2]
        by_cases h3 : a = 3
        · subst h3
          have hl : s.data.toList.length ≤ 100 := by have := hk; simp [okV] at this; simpa using this.2
          refine ev_if_pos rfl (Ev.bind (big1_is (s.size : Int)) (ev_if_pos (by simp [mkB_size]) (ev_if_pos (by simp [mkB_size, mkB_append]; omega) (ev_conv (ev_some fun _ => rfl) ?_))))
          have e : ((s.size : Int)) % 256 = (s.data.toList.length : Int) := by rw [size_data]; omega
          rw [if_pos rfl, e]
          conv => lhs; rw [← mkB_of s]
          rw [mkB_append, mkB_append]
          rfl
        · refine ev_if_neg h3 (ev_conv (ev_some fun _ => rfl) ?_)
          have h0 : a = 0 := by
            by_cases h0 : a = 0
            · exact h0
            · simp [okV, h0, h1, h2, h3] at hk
          rw [if_neg h3, h0]
          rfl
theorem bigStep_eq (n : Int) (c : UInt8) : bigStep n c = bits .or .i64 (wrap64 (n * 256)) (c.toNat : Int) := rfl
theorem bigFold_snoc (l : List UInt8) (c : UInt8) (ih : l.foldl bigStep 0 = wrap64 (beN l : Int)) : (l ++ [c]).foldl bigStep 0 = wrap64 (beN (l ++ [c]) : Int) := by
  have e : ((beN l * 256 + c.toNat : Nat) : Int) = (beN l : Int) * 256 + (c.toNat : Int) := by omega
  rw [List.foldl_append, ih, beN_snoc, e, List.foldl_cons, List.foldl_nil, bigStep_eq]
  exact be_step _ _ c.toNat_lt
theorem bigFold_nil : ([] : List UInt8).foldl bigStep 0 = wrap64 (beN [] : Int) := by
  rw [beN_nil, List.foldl_nil]
  unfold wrap64
  omega
theorem bigFold_is (l : List UInt8) : l.foldl bigStep 0 = wrap64 (beN l : Int) :=
  snoc_ind (p := fun l => l.foldl bigStep 0 = wrap64 (beN l : Int)) bigFold_nil bigFold_snoc l
theorem bigPre_is (l : List UInt8) : bigPre (mkB l) (mkB l).size = wrap64 (beN l : Int) := by
  unfold bigPre
  rw [mkB_size, mkB_data, List.take_length, bigFold_is]
theorem bigOf_is (l : List UInt8) (hl : l.length ≤ 9223372036854775807) : impl_bigOf.f (mkB l) = some (wrap64 (beN l : Int)) := by
  unfold impl_bigOf.f
  have h : (mkB l).size ≤ 9223372036854775807 := by rw [mkB_size]; exact hl
  rw [if_pos h, bigPre_is]
theorem wrap_zero : wrap64 (beN [] : Int) = 0 := by
  rw [beN_nil]
  unfold wrap64
  omega
theorem bigOf_nil : impl_bigOf.f (mkB []) = some 0 := by
  rw [bigOf_is [] (Nat.zero_le _), wrap_zero]
theorem take_bad (s : ByteArray) (i n : Int) : impl_reader_take.f s i true n = some (mkB [], s, i, true) := by
  unfold impl_reader_take.f
  rw [if_pos rfl]
  rfl
theorem take_short (s : ByteArray) (i n : Nat) (hi : i ≤ s.size) (hs : s.size ≤ 1099511627776) (h : s.size < i + n) (hn : n ≤ 1099511627776) : impl_reader_take.f s i false n = some (mkB [], s, (i : Int), true) := by
  unfold impl_reader_take.f
  rw [if_neg (by simp), wrap_id (x := (s.size : Int) - (i : Int)) (by omega) (by omega), if_pos (by omega)]
  rfl
theorem take_ok (s : ByteArray) (i n : Nat) (hs : s.size ≤ 1099511627776) (h : i + n ≤ s.size) : impl_reader_take.f s i false n = some (mkB ((s.data.toList.drop i).take n), s, ((i + n : Nat) : Int), false) := by
  have e1 : wrap64 ((i : Int) + (n : Int)) = ((i + n : Nat) : Int) := by rw [wrap_id (by omega) (by omega)]; omega
  have e2 : wrap64 (((i + n : Nat) : Int) - (n : Int)) = (i : Int) := by rw [wrap_id (by omega) (by omega)]; omega
  unfold impl_reader_take.f
  rw [if_neg (by simp), wrap_id (x := (s.size : Int) - (i : Int)) (by omega) (by omega), if_neg (by omega)]
  simp only [e1, e2]
  rw [if_pos (by omega), if_pos (by omega), if_pos (by omega), extract_mk, Int.toNat_natCast, Int.toNat_natCast, show i + n - i = n by omega]
theorem size_bad (s : ByteArray) (i n : Int) : impl_reader_size.f s i true n = some (0, s, i, true) := by
  unfold impl_reader_size.f
  rw [take_bad]
  simp only [Option.bind_some]
  rw [bigOf_nil]
  rfl
theorem size_short (s : ByteArray) (i n : Nat) (hi : i ≤ s.size) (hs : s.size ≤ 1099511627776) (h : s.size < i + n) (hn : n ≤ 1099511627776) : impl_reader_size.f s i false n = some (0, s, (i : Int), true) := by
  unfold impl_reader_size.f
  rw [take_short s i n hi hs h hn]
  simp only [Option.bind_some]
  rw [bigOf_nil]
  rfl
theorem size_ok (s : ByteArray) (i n : Nat) (hs : s.size ≤ 1099511627776) (h : i + n ≤ s.size) : impl_reader_size.f s i false n = some (wrap64 (beN ((s.data.toList.drop i).take n) : Int), s, ((i + n : Nat) : Int), false) := by
  unfold impl_reader_size.f
  rw [take_ok s i n hs h]
  simp only [Option.bind_some]
  have hl : ((s.data.toList.drop i).take n).length ≤ n := List.length_take_le _ _
  rw [bigOf_is _ (by omega)]
  rfl
theorem value_bad (s : ByteArray) (i : Int) : impl_reader_value.f s i true = some (0, 0, mkB [], s, i, true) := by
  unfold impl_reader_value.f
  rw [size_bad]
  simp
  rfl
theorem drop_cons_at {s : ByteArray} {i : Nat} {c : UInt8} {t : List UInt8} (h : s.data.toList.drop i = c :: t) : i < s.size ∧ s.data.toList.drop (i + 1) = t ∧ t.length = s.size - i - 1 := by
  have h1 := congrArg List.length h
  rw [List.length_drop, ← size_data, List.length_cons] at h1
  have h2 : s.data.toList.drop (i + 1) = t := by
    have := congrArg (List.drop 1) h
    rwa [List.drop_drop] at this
  exact ⟨by omega, h2, by omega⟩
theorem wrap_byte (c : UInt8) : wrap64 (c.toNat : Int) = (c.toNat : Int) := by have := c.toNat_lt; exact wrap_id (by omega) (by omega)
theorem value_is (s : ByteArray) (i : Nat) (hi : i ≤ s.size) (hs : s.size ≤ 1099511627000) :
    (∃ a b x n, getV (s.data.toList.drop i) = some ((a, b, x), n) ∧ impl_reader_value.f s i false = some (a, b, mkB x, s, ((i + n : Nat) : Int), false) ∧ i + n ≤ s.size) ∨
    (getV (s.data.toList.drop i) = none ∧ ∃ (a b : Int) (x : ByteArray) (j : Nat), impl_reader_value.f s i false = some (a, b, x, s, (j : Int), true) ∧ j ≤ s.size) := by
  cases hd : s.data.toList.drop i with
  | nil =>
    have hl := congrArg List.length hd
    rw [List.length_drop, ← size_data, List.length_nil] at hl
    refine .inr ⟨rfl, 0, 0, mkB [], i, ?_, hi⟩
    unfold impl_reader_value.f
    rw [show (1 : Int) = ((1 : Nat) : Int) from rfl, size_short s i 1 hi (by omega) (by omega) (by omega)]
    simp
    rfl
  | cons c t =>
    obtain ⟨hlt, ht, htl⟩ := drop_cons_at hd
    have hc := c.toNat_lt
    have h1 : impl_reader_size.f s i false 1 = some ((c.toNat : Int), s, ((i + 1 : Nat) : Int), false) := by
      rw [show (1 : Int) = ((1 : Nat) : Int) from rfl, size_ok s i 1 (by omega) (by omega), hd]
      simp only [List.take_succ_cons, List.take_zero, beN_one, wrap_byte]
    unfold impl_reader_value.f getV
    rw [h1]
    simp only [Option.bind_some]
    by_cases c1 : c.toNat = 1
    · rw [if_pos (show (c.toNat : Int) = 1 by omega), if_pos c1]
      by_cases h8 : 8 ≤ t.length
      · rw [show (8 : Int) = ((8 : Nat) : Int) from rfl, size_ok s (i + 1) 8 (by omega) (by omega), ht, if_pos h8]
        simp only [Option.bind_some, implValueOk_is]
        refine .inl ⟨_, _, _, _, rfl, ?_, by omega⟩
        have ho : okV (c.toNat : Int) (wrap64 (beN (t.take 8) : Int)) (⟨#[]⟩ : ByteArray).data.toList = true := by simp [okV, c1]
        rw [ho]
        simp [c1]
        exact ⟨rfl, by omega⟩
      · rw [show (8 : Int) = ((8 : Nat) : Int) from rfl, size_short s (i + 1) 8 (by omega) (by omega) (by omega) (by omega), if_neg h8]
        exact .inr ⟨rfl, (c.toNat : Int), 0, ⟨#[]⟩, i + 1, by simp, by omega⟩
    · rw [if_neg (show ¬ (c.toNat : Int) = 1 by omega), if_neg c1]
      by_cases c2 : c.toNat = 2
      · rw [if_pos (show (c.toNat : Int) = 2 by omega), if_pos c2]
        cases t with
        | nil =>
          rw [show (1 : Int) = ((1 : Nat) : Int) from rfl, size_short s (i + 1) 1 (by omega) (by omega) (by simp at htl; omega) (by omega)]
          exact .inr ⟨rfl, (c.toNat : Int), 0, ⟨#[]⟩, i + 1, by simp, by omega⟩
        | cons b u =>
          rw [List.length_cons] at htl
          rw [show (1 : Int) = ((1 : Nat) : Int) from rfl, size_ok s (i + 1) 1 (by omega) (by omega), ht]
          simp only [List.take_succ_cons, List.take_zero, beN_one, wrap_byte, Option.bind_some, implValueOk_is]
          have ho : okV (c.toNat : Int) (b.toNat : Int) (⟨#[]⟩ : ByteArray).data.toList = decide (b.toNat ≤ 1) := by simp [okV, c2]; omega
          rw [ho]
          by_cases hb : b.toNat ≤ 1
          · rw [if_pos hb]
            exact .inl ⟨_, _, _, _, rfl, by simp [hb, c2]; exact ⟨rfl, by omega⟩, by omega⟩
          · rw [if_neg hb]
            exact .inr ⟨rfl, (c.toNat : Int), (b.toNat : Int), ⟨#[]⟩, i + 1 + 1, by simp [hb], by omega⟩
      · rw [if_neg (show ¬ (c.toNat : Int) = 2 by omega), if_neg c2]
        by_cases c3 : c.toNat = 3
        · rw [if_pos (show (c.toNat : Int) = 3 by omega), if_pos c3]
          cases t with
          | nil =>
            rw [show (1 : Int) = ((1 : Nat) : Int) from rfl, size_short s (i + 1) 1 (by omega) (by omega) (by simp at htl; omega) (by omega)]
            simp only [Option.bind_some, take_bad]
            exact .inr ⟨by first | rfl | trivial, (c.toNat : Int), 0, mkB [], i + 1, by simp, by omega⟩
          | cons m u =>
            rw [List.length_cons] at htl
            have hm := m.toNat_lt
            have hu : s.data.toList.drop (i + 1 + 1) = u := (drop_cons_at ht).2.1
            rw [show (1 : Int) = ((1 : Nat) : Int) from rfl, size_ok s (i + 1) 1 (by omega) (by omega), ht]
            simp only [List.take_succ_cons, List.take_zero, beN_one, wrap_byte, Option.bind_some]
            by_cases hl : m.toNat ≤ u.length
            · rw [take_ok s (i + 1 + 1) m.toNat (by omega) (by omega), hu]
              simp only [Option.bind_some, implValueOk_is, mkB_data]
              have ho : okV (c.toNat : Int) 0 (u.take m.toNat) = decide (m.toNat ≤ 100) := by simp [okV, c3]; omega
              rw [ho]
              by_cases hb : m.toNat ≤ 100
              · rw [if_pos ⟨hb, hl⟩]
                exact .inl ⟨_, _, _, _, rfl, by simp [hb, c3]; omega, by omega⟩
              · rw [if_neg (by omega)]
                exact .inr ⟨rfl, (c.toNat : Int), 0, mkB (u.take m.toNat), i + 1 + 1 + m.toNat, by simp [hb], by omega⟩
            · rw [take_short s (i + 1 + 1) m.toNat (by omega) (by omega) (by omega) (by omega), if_neg (by omega)]
              simp only [Option.bind_some]
              exact .inr ⟨by first | rfl | trivial, (c.toNat : Int), 0, mkB [], i + 1 + 1, by simp, by omega⟩
        · rw [if_neg (show ¬ (c.toNat : Int) = 3 by omega), if_neg c3]
          simp only [implValueOk_is, Option.bind_some]
          by_cases c0 : c.toNat = 0
          · rw [if_pos c0]
            have ho : okV (c.toNat : Int) 0 (⟨#[]⟩ : ByteArray).data.toList = true := by simp [okV, c0]
            rw [ho]
            exact .inl ⟨_, _, _, _, rfl, by simp [c0]; rfl, by omega⟩
          · rw [if_neg c0]
            have ho : okV (c.toNat : Int) 0 (⟨#[]⟩ : ByteArray).data.toList = false := by simp [okV, c0, c1, c2, c3]; omega
            rw [ho]
            exact .inr ⟨rfl, (c.toNat : Int), 0, ⟨#[]⟩, i + 1, by simp, by omega⟩
theorem implGetValue_is (s : ByteArray) (i : Int) (hs : s.size ≤ 1099511627000) : impl_GetValue.f s i = some (getAt s i) := by
  unfold impl_GetValue.f impl_within.f getAt
  by_cases h0 : 0 ≤ i
  · obtain ⟨j, rfl⟩ := Int.eq_ofNat_of_zero_le h0
    rw [if_pos h0]
    by_cases h1 : (j : Int) ≤ (s.size : Int)
    · simp only [Option.bind_some, h1, decide_true, if_true, h0, and_self, Int.toNat_natCast]
      rcases value_is s j (by omega) hs with ⟨a, b, x, n, hg, hv, hn⟩ | ⟨hg, a, b, x, k, hv, _⟩
      · rw [hg, hv]
        simp [packV]
      · rw [hg, hv]
        simp [packV]
        rfl
    · simp only [Option.bind_some, h1, decide_false, and_false, if_false, Bool.false_eq_true]
      rfl
  · rw [if_neg h0]
    simp only [Option.bind_some, h0, false_and, if_false, Bool.false_eq_true]
    rfl
theorem bt_at' {s : ByteArray} {i : Nat} {c : UInt8} {t : List UInt8} (h : s.data.toList.drop i = c :: t) : bt s (i : Int) = (c.toNat : Int) := by
  rw [bt_data, Int.toNat_natCast]
  have : s.data.toList.getD i 0 = c := by
    have h2 := congrArg (fun l : List UInt8 => l.getD 0 0) h
    simpa [List.getD_eq_getElem?_getD, List.getElem?_drop] using h2
  rw [this]
theorem bt_off {s : ByteArray} {i : Nat} {t : List UInt8} (h : s.data.toList.drop (i + 1) = t) (m : Nat) : bt s ((i + 1 + m : Nat) : Int) = ((t.getD m 0).toNat : Int) := by
  rw [bt_data, Int.toNat_natCast, ← h]
  simp [List.getD_eq_getElem?_getD, List.getElem?_drop]
theorem specLoop_is (s : ByteArray) (i : Nat) (t : List UInt8) (ht : s.data.toList.drop (i + 1) = t) (hl : 8 ≤ t.length) (hs : s.size ≤ 1099511627000) (htl : t.length = s.size - i - 1) (hi : i < s.size) :
    ∀ (d m : Nat), m + d = 8 → Ev (fun k => spec_GetValue.l0 k s (i : Int) (beN (t.take m) : Int) ((m + 1 : Nat) : Int) 1 0 (⟨#[]⟩ : ByteArray)) (1, wrap64 (beN (t.take 8) : Int), mkB [], ((i + 9 : Nat) : Int)) := by
  intro d
  induction d with
  | zero =>
    intro m hm
    obtain rfl : m = 8 := by omega
    refine Ev.step (fun k => rfl) (ev_if_neg (by omega) (ev_bind0 (specValueOk_is _ _ _) ?_))
    have ho : okV 1 (wrap64 (beN (t.take 8) : Int)) (⟨#[]⟩ : ByteArray).data.toList = true := rfl
    rw [ho]
    refine ev_if_pos rfl (ev_conv (ev_some fun _ => rfl) ?_)
    rw [wrap_id (x := (i : Int) + 9) (by omega) (by omega)]
    rfl
  | succ d ih =>
    intro m hm
    have e1 : wrap64 ((i : Int) + ((m + 1 : Nat) : Int)) = ((i + 1 + m : Nat) : Int) := by rw [wrap_id (by omega) (by omega)]; omega
    have e2 : wrap64 (((m + 1 : Nat) : Int) + 1) = ((m + 1 + 1 : Nat) : Int) := by rw [wrap_id (by omega) (by omega)]; omega
    have hml : m < t.length := by omega
    have hlt : beN (t.take m) < 256 ^ 7 := by
      refine Nat.lt_of_lt_of_le (beN_lt _) (Nat.pow_le_pow_right (by omega) ?_)
      rw [List.length_take]
      omega
    have hc := (t.getD m 0).toNat_lt
    have e3 : IntKind.u64.wrap (IntKind.u64.wrap (256 * (beN (t.take m) : Int)) + IntKind.u64.wrap ((t.getD m 0).toNat : Int)) = (beN (t.take (m + 1)) : Int) := by
      rw [List.take_succ_eq_append_getElem hml, beN_snoc]
      have eg : t.getD m 0 = t[m] := by rw [List.getD_eq_getElem?_getD, List.getElem?_eq_getElem hml]; rfl
      rw [← eg]
      obtain ⟨C, hC⟩ : ∃ C, C = (t.getD m 0).toNat := ⟨_, rfl⟩
      rw [← hC] at hc ⊢
      simp only [IntKind.wrap, IntKind.bits, IntKind.signed]
      simp
      omega
    refine Ev.step (fun k => rfl) (ev_if_pos (by omega) ?_)
    rw [e1]
    refine ev_if_pos (by omega) (ev_if_pos (by omega) ?_)
    rw [bt_off ht m, e3, e2]
    exact ih (m + 1) (by omega)
set_option maxHeartbeats 2000000 in
theorem specGetValue_is (s : ByteArray) (i : Int) (hs : s.size ≤ 1099511627000) : Ev (fun k => spec_GetValue.f k s i) (getAt s i) := by
  have hn : Ev (fun _ : Nat => some ((0, 0, (⟨#[]⟩ : ByteArray), (-1)) : Int × Int × ByteArray × Int)) (0, 0, mkB [], -1) := ev_some fun _ => rfl
  have hw : wrap64 ((s.size : Int) - 1) = (s.size : Int) - 1 := wrap_id (by omega) (by omega)
  unfold getAt
  rcases (show i < 0 ∨ 0 ≤ i by omega) with h0 | h0
  · rw [if_neg (by omega)]
    refine ev_bind0 (a := false) ?_ (ev_if_neg (by simp) hn)
    unfold spec_l01In.f
    rw [if_neg (by omega)]
  obtain ⟨j, rfl⟩ := Int.eq_ofNat_of_zero_le h0
  rcases (show ¬ j < s.size ∨ j < s.size by omega) with h1 | h1
  · refine ev_bind0 (a := false) ?_ (ev_if_neg (by simp) ?_)
    · unfold spec_l01In.f
      rw [if_pos (by omega), hw]
      simp
      omega
    · by_cases h2 : (j : Int) ≤ (s.size : Int)
      · rw [if_pos ⟨by omega, h2⟩, Int.toNat_natCast, List.drop_of_length_le (by rw [← size_data]; omega)]
        exact hn
      · rw [if_neg (by omega)]
        exact hn
  rw [if_pos ⟨by omega, by omega⟩, Int.toNat_natCast]
  cases hd : s.data.toList.drop j with
  | nil =>
    have hl := congrArg List.length hd
    rw [List.length_drop, ← size_data, List.length_nil] at hl
    omega
  | cons c t =>
    obtain ⟨_, ht, htl⟩ := drop_cons_at hd
    have hc := c.toNat_lt
    have e0 : wrap64 (bt s (j : Int)) = (c.toNat : Int) := by rw [bt_at' hd]; exact wrap_byte c
    have eb : ∀ b u, t = b :: u → wrap64 (bt s (wrap64 ((j : Int) + 1))) = (b.toNat : Int) := by
      rintro b u rfl
      rw [wrap_id (x := (j : Int) + 1) (by omega) (by omega), show (j : Int) + 1 = ((j + 1 : Nat) : Int) by omega, bt_at' ht]
      exact wrap_byte b
    have ed : wrap64 ((s.size : Int) - (j : Int)) = ((t.length + 1 : Nat) : Int) := by rw [wrap_id (by omega) (by omega)]; omega
    have e1 : wrap64 ((j : Int) + 1) = ((j + 1 : Nat) : Int) := by rw [wrap_id (by omega) (by omega)]; omega
    have e2 : wrap64 ((j : Int) + 2) = ((j + 2 : Nat) : Int) := by rw [wrap_id (by omega) (by omega)]; omega
    -- behind the three guards
    have j3no : ∀ (a : Int), a ≠ 0 → Ev (fun k => spec_GetValue.j3 k s (j : Int) 1 false a 0 (⟨#[]⟩ : ByteArray)) (0, 0, mkB [], -1) := fun a ha =>
      Ev.step (fun k => rfl) (ev_if_neg ha hn)
    refine ev_bind0 (a := true) ?_ (ev_if_pos rfl (ev_if_pos (by omega) (ev_if_pos (by omega) ?_)))
    · unfold spec_l01In.f
      rw [if_pos (by omega), hw]
      simp
      omega
    rw [e0, ed]
    unfold getV
    dsimp only
    by_cases c1 : c.toNat = 1
    · rw [if_pos c1]
      refine ev_if_pos (by omega) ?_
      by_cases h8 : 8 ≤ t.length
      · rw [if_pos h8]
        refine Ev.step (fun k => rfl) (ev_if_pos (by simp; omega) ?_)
        rw [c1]
        exact ev_conv (specLoop_is s j t ht h8 hs htl (by omega) 8 0 (by omega)) rfl
      · rw [if_neg h8]
        refine Ev.step (fun k => rfl) (ev_if_neg (by simp; omega) (ev_if_neg (by omega) (Ev.step (fun k => rfl) (ev_if_neg (by omega) (j3no _ (by omega))))))
    rw [if_neg c1]
    refine ev_if_neg (by omega) (Ev.step (fun k => rfl) ?_)
    by_cases c2 : c.toNat = 2
    · rw [if_pos c2]
      refine ev_if_pos (by omega) ?_
      rw [ed]
      cases t with
      | nil =>
        exact Ev.step (fun k => rfl) (ev_if_neg (by omega) (j3no _ (by omega)))
      | cons b u =>
        rw [List.length_cons] at htl
        refine Ev.step (fun k => rfl) (ev_if_pos (by simp; omega) ?_)
        rw [eb b u rfl, e1, e2]
        refine ev_if_pos (by omega) (ev_if_pos (by omega) (ev_bind0 (specValueOk_is _ _ _) ?_))
        have ho : okV (c.toNat : Int) (b.toNat : Int) (⟨#[]⟩ : ByteArray).data.toList = decide (b.toNat ≤ 1) := by simp [okV, c2]; omega
        rw [ho]
        by_cases hb : b.toNat ≤ 1
        · exact ev_if_pos (by simp [hb]) (ev_conv (ev_some fun _ => rfl) (by simp [packV, hb, c2]; rfl))
        · exact ev_if_neg (by simp [hb]) (ev_conv hn (by simp [packV, hb]))
    rw [if_neg c2]
    refine ev_if_neg (by omega) (Ev.step (fun k => rfl) ?_)
    by_cases c3 : c.toNat = 3
    · rw [if_pos c3]
      refine ev_if_pos (by omega) ?_
      rw [ed]
      cases t with
      | nil => exact ev_if_neg (by simp) (j3no _ (by omega))
      | cons m u =>
        rw [List.length_cons] at htl ed ⊢
        have hm := m.toNat_lt
        have hu : s.data.toList.drop (j + 2) = u := (drop_cons_at ht).2.1
        have q1 : 0 ≤ ((j + 1 : Nat) : Int) := by omega
        have q2 : ((j + 1 : Nat) : Int) < (s.size : Int) := by omega
        have q3 : 0 ≤ ((j + 2 : Nat) : Int) := by omega
        have q4 : ((j + 2 : Nat) : Int) ≤ ((j + (2 + m.toNat) : Nat) : Int) := by omega
        have q5 : m.toNat ≤ u.length → ((j + (2 + m.toNat) : Nat) : Int) ≤ (s.size : Int) := by omega
        have q6 : m.toNat ≤ u.length → decide ((u.length : Int) ≥ (m.toNat : Int)) = true := fun h => decide_eq_true (by omega)
        have q7 : ¬ m.toNat ≤ u.length → decide ((u.length : Int) ≥ (m.toNat : Int)) = false := fun h => decide_eq_false (by omega)
        have q8 : (c.toNat : Int) ≠ 0 := by omega
        have q9 : ((u.length + 1 + 1 : Nat) : Int) ≥ 2 := by omega
        have e4 : wrap64 (((u.length + 1 + 1 : Nat) : Int) - 2) = (u.length : Int) := by rw [wrap_id (by omega) (by omega)]; omega
        have e5 : wrap64 ((j : Int) + wrap64 (2 + (m.toNat : Int))) = ((j + (2 + m.toNat) : Nat) : Int) := by rw [wrap_id (x := 2 + (m.toNat : Int)) (by omega) (by omega), wrap_id (by omega) (by omega)]; omega
        have e6 := eb m u rfl
        rw [e1] at e6
        refine ev_if_pos q9 ?_
        rw [e1, e4, e6]
        refine ev_if_pos q1 (ev_if_pos q2 ?_)
        by_cases hl : m.toNat ≤ u.length
        · refine Ev.step (fun k => rfl) (ev_if_pos (q6 hl) ?_)
          rw [e1, e6, e2, e5]
          refine ev_if_pos q1 (ev_if_pos q2 (ev_if_pos q3 (ev_if_pos q4 (ev_if_pos (q5 hl) (ev_bind0 (specValueOk_is _ _ _) ?_)))))
          have hx : s.extract ((j + 2 : Nat) : Int).toNat ((j + (2 + m.toNat) : Nat) : Int).toNat = mkB (u.take m.toNat) := by
            rw [extract_mk, Int.toNat_natCast, Int.toNat_natCast, hu, show j + (2 + m.toNat) - (j + 2) = m.toNat by omega]
          rw [hx, mkB_data]
          have ho : okV (c.toNat : Int) 0 (u.take m.toNat) = decide (m.toNat ≤ 100) := by simp [okV, c3]; omega
          rw [ho]
          by_cases hb : m.toNat ≤ 100
          · exact ev_if_pos (by simp [hb]) (ev_conv (ev_some fun _ => rfl) (by simp [packV, hb, hl, c3]))
          · exact ev_if_neg (by simp [hb]) (ev_conv hn (by simp [packV, hb]))
        · rw [q7 hl]
          exact ev_conv (j3no (c.toNat : Int) q8) (by simp [packV, hl])
    rw [if_neg c3]
    refine ev_if_neg (by omega) (Ev.step (fun k => rfl) ?_)
    by_cases c0 : c.toNat = 0
    · rw [if_pos c0]
      refine ev_if_pos (by omega) (ev_bind0 (specValueOk_is _ _ _) ?_)
      have ho : okV (c.toNat : Int) 0 (⟨#[]⟩ : ByteArray).data.toList = true := by simp [okV, c0]
      rw [ho]
      refine ev_if_pos rfl (ev_conv (ev_some fun _ => rfl) ?_)
      rw [e1]
      simp [packV, c0]
      rfl
    · rw [if_neg c0]
      exact ev_if_neg (by omega) hn
theorem nm_l01In_is (a b c : Int) : spec_l01In.f a b c = some (decide (b ≤ a ∧ a ≤ c)) := by
  unfold spec_l01In.f
  by_cases h : a ≥ b
  · rw [if_pos h]
    by_cases h' : a ≤ c <;> simp [h', show b ≤ a from h]
  · rw [if_neg h, decide_eq_false (by omega)]
def okAt (s : ByteArray) (j : Nat) : Prop := (97 ≤ bt s j ∧ bt s j ≤ 122) ∨ (j ≠ 0 ∧ 48 ≤ bt s j ∧ bt s j ≤ 57)
/-- A name. -/
def NameP (s : ByteArray) : Prop := (∀ j, j < s.size → okAt s j) ∧ 1 ≤ s.size ∧ s.size ≤ 10
theorem spec_nameOk_loop (s : ByteArray) (hs : s.size ≤ 9223372036854775807) : ∀ (n i : Nat) (r : Bool), s.size - i = n → i ≤ s.size → (r = true ↔ (∀ j, i ≤ j → j < s.size → okAt s j) ∧ 1 ≤ s.size ∧ s.size ≤ 10) → Ev (fun k => spec_NameOk.l0 k s i) r := by
  intro n
  induction n with
  | zero =>
    intro i r h1 h2 hr
    refine Ev.step (fun k => rfl) (ev_if_neg (by omega) (ev_some fun k => ?_))
    rw [nm_l01In_is]
    simp only [Option.bind_some]
    congr 1
    rw [Bool.eq_iff_iff, hr, decide_eq_true_eq]
    exact ⟨fun h => ⟨fun j _ _ => by omega, by omega, by omega⟩, fun h => by omega⟩
  | succ n ih =>
    intro i r h1 h2 hr
    have hi : i < s.size := by omega
    have hb := bt_range s i
    refine Ev.step (fun k => rfl) (ev_if_pos (by omega) (ev_if_pos (by omega) ?_))
    rw [wrap_id (by omega) (by omega), wrap_succ hi hs]
    refine ev_bind0 (nm_l01In_is _ _ _) ?_
    have next : okAt s i → Ev (fun k => spec_NameOk.l0 k s ((i + 1 : Nat) : Int)) r := fun ho => ih (i + 1) r (by omega) (by omega) (hr.trans ⟨fun h => ⟨fun j hj hj' => h.1 j (by omega) hj', h.2⟩, fun h => ⟨fun j hj hj' => by
      by_cases e : j = i
      · exact e ▸ ho
      · exact h.1 j (by omega) hj', h.2⟩⟩)
    have no : ¬ okAt s i → false = r := fun ho => by
      cases r with
      | false => rfl
      | true => exact absurd ((hr.1 rfl).1 i (Nat.le_refl _) hi) ho
    by_cases hsm : 97 ≤ bt s i ∧ bt s i ≤ 122
    · exact ev_if_pos (decide_eq_true hsm) (next (.inl hsm))
    · refine ev_if_neg (by simpa using hsm) ?_
      by_cases h0 : (i : Int) = 0
      · exact ev_if_pos h0 (ev_conv (ev_some fun _ => rfl) (no (by rintro (h | h); exact hsm h; exact h.1 (by omega))))
      · refine ev_if_neg h0 (ev_bind0 (nm_l01In_is _ _ _) ?_)
        by_cases hd : 48 ≤ bt s i ∧ bt s i ≤ 57
        · exact ev_if_pos (decide_eq_true hd) (next (.inr ⟨by omega, hd⟩))
        · exact ev_if_neg (by simpa using hd) (ev_conv (ev_some fun _ => rfl) (no (by rintro (h | h); exact hsm h; exact hd h.2)))
theorem spec_nameOk_is (s : ByteArray) (hs : s.size ≤ 9223372036854775807) (r : Bool) (hr : r = true ↔ NameP s) : Ev (fun k => spec_NameOk.f k s) r :=
  spec_nameOk_loop s hs s.size 0 r rfl (Nat.zero_le _) (hr.trans ⟨fun h => ⟨fun j _ hj => h.1 j hj, h.2⟩, fun h => ⟨fun j hj => h.1 j (Nat.zero_le _) hj, h.2⟩⟩)
theorem allO_is {α : Type} {f : α → Option Bool} {g : α → Bool} : ∀ {xs : List α}, (∀ x ∈ xs, f x = some (g x)) → allO f xs = some (xs.all g)
  | [], _ => rfl
  | x :: xs, h => by
    rw [allO, h x (List.mem_cons_self ..), Option.bind_some, List.all_cons]
    cases g x with
    | false => rfl
    | true => rw [if_pos rfl, allO_is fun y hy => h y (List.mem_cons_of_mem _ hy), Bool.true_and]
theorem isSmall_is (a : Int) : impl_isSmall.f a = some (decide (97 ≤ a ∧ a ≤ 122)) := by
  unfold impl_isSmall.f
  by_cases h : a ≥ 97
  · rw [if_pos h]
    by_cases h' : a ≤ 122 <;> simp [h', show 97 ≤ a from h]
  · rw [if_neg h, decide_eq_false (by omega)]
theorem isDigit_is (a : Int) : impl_isDigit.f a = some (decide (48 ≤ a ∧ a ≤ 57)) := by
  unfold impl_isDigit.f
  by_cases h : a ≥ 48
  · rw [if_pos h]
    by_cases h' : a ≤ 57 <;> simp [h', show 48 ≤ a from h]
  · rw [if_neg h, decide_eq_false (by omega)]
theorem nameOk1_is (a : Int) : impl_NameOk_1.f a = some (decide ((97 ≤ a ∧ a ≤ 122) ∨ (48 ≤ a ∧ a ≤ 57))) := by
  unfold impl_NameOk_1.f
  rw [isSmall_is, Option.bind_some, isDigit_is]
  by_cases h : 97 ≤ a ∧ a ≤ 122
  · rw [if_pos (decide_eq_true h), decide_eq_true (Or.inl h)]
  · rw [if_neg (by simpa using h), Option.bind_some]
    congr 1
    by_cases h' : 48 ≤ a ∧ a ≤ 57
    · rw [decide_eq_true h', decide_eq_true (Or.inr h')]
    · rw [decide_eq_false h', decide_eq_false (by rintro (x | x); exact h x; exact h' x)]
theorem bytesI_mem {s : ByteArray} {x : Int} (h : x ∈ bytesI s) : ∃ j, j < s.size ∧ x = bt s (j : Nat) := by
  obtain ⟨j, hj, rfl⟩ := List.getElem_of_mem h
  have hl : j < s.size := by simpa [bytesI] using hj
  refine ⟨j, hl, ?_⟩
  rw [← bt_at s j (by simpa using hl)]
  simp [bytesI]
  rfl
theorem bt_mem {s : ByteArray} {j : Nat} (hl : j < s.size) : bt s (j : Nat) ∈ bytesI s := by
  have hj : j < (bytesI s).length := by simpa [bytesI] using hl
  have : (bytesI s)[j] = bt s j := by
    rw [← bt_at s j (by simpa using hl)]
    simp [bytesI]
    rfl
  exact this ▸ List.getElem_mem hj
theorem impl_nameOk_is (s : ByteArray) (r : Bool) (hr : r = true ↔ NameP s) : impl_NameOk.f s = some r := by
  have hw : impl_within.f (s.size : Int) 1 10 = some (decide (1 ≤ s.size ∧ s.size ≤ 10)) := by
    unfold impl_within.f
    by_cases h : (1 : Int) ≤ (s.size : Int)
    · rw [if_pos h]
      congr 1
      by_cases h' : s.size ≤ 10
      · rw [decide_eq_true (by omega), decide_eq_true (by omega)]
      · rw [decide_eq_false (by omega), decide_eq_false (by omega)]
    · rw [if_neg h, decide_eq_false (by omega)]
  have no : ¬ NameP s → some false = some r := fun hn => by
    cases r with
    | false => rfl
    | true => exact absurd (hr.1 rfl) hn
  unfold impl_NameOk.f
  rw [hw, Option.bind_some]
  by_cases hz : 1 ≤ s.size ∧ s.size ≤ 10
  · rw [if_pos (decide_eq_true hz), if_pos (by omega), isSmall_is, Option.bind_some]
    by_cases h0 : 97 ≤ bt s 0 ∧ bt s 0 ≤ 122
    · rw [if_pos (decide_eq_true h0), if_pos (by omega), allO_is (g := fun a => decide ((97 ≤ a ∧ a ≤ 122) ∨ (48 ≤ a ∧ a ≤ 57))) fun x _ => nameOk1_is x]
      congr 1
      rw [Bool.eq_iff_iff, hr, List.all_eq_true]
      refine ⟨fun h => ⟨fun j hj => ?_, hz⟩, fun h x hx => ?_⟩
      · have := of_decide_eq_true (h _ (bt_mem hj))
        by_cases e : j = 0
        · subst e
          exact .inl h0
        · exact this.imp id fun t => ⟨e, t⟩
      · obtain ⟨j, hj, rfl⟩ := bytesI_mem hx
        exact decide_eq_true ((h.1 j hj).imp id fun t => t.2)
    · rw [if_neg (by simpa using h0)]
      exact no fun h => (h.1 0 (by omega)).elim h0 fun t => t.1 rfl
  · rw [if_neg (by simpa using hz)]
    exact no fun h => hz h.2
/-! #### decimal numerals -/
theorem digit_cut (d : Nat) (hd : d < 10) : (⟨#[48, 49, 50, 51, 52, 53, 54, 55, 56, 57]⟩ : ByteArray).extract d (d + 1) = mkB [UInt8.ofNat (48 + d)] := by
  have : d = 0 ∨ d = 1 ∨ d = 2 ∨ d = 3 ∨ d = 4 ∨ d = 5 ∨ d = 6 ∨ d = 7 ∨ d = 8 ∨ d = 9 := by omega
  rcases this with rfl | rfl | rfl | rfl | rfl | rfl | rfl | rfl | rfl | rfl <;> rfl
theorem decDigits_pos {u : Nat} (h : 0 < u) : Lib.decDigits u = (if u / 10 = 0 then [] else Lib.decDigits (u / 10)) ++ [UInt8.ofNat (48 + u % 10)] := by
  by_cases h10 : u < 10
  · rw [Lib.decDigits, dif_pos h10, if_pos (by omega), Nat.mod_eq_of_lt h10]
    rfl
  · rw [Lib.decDigits, dif_neg h10, if_neg (by omega)]
theorem decDigits_len (u : Nat) : (Lib.decDigits u).length ≤ u + 1 := by
  induction u using Nat.strongRecOn with
  | _ u ih =>
    by_cases h10 : u < 10
    · rw [Lib.decDigits, dif_pos h10]
      simp
    · rw [Lib.decDigits, dif_neg h10]
      have := ih (u / 10) (by omega)
      simp
      omega
/-- The digits of a number that is not 0, laid ahead of a text. -/
theorem decLoop_is (a0 : Int) (h0 : -9223372036854775808 ≤ a0) (h1 : a0 ≤ 9223372036854775807) : ∀ (n : Nat) (m : Int) (acc : List UInt8), m.natAbs = n → n ≤ 9223372036854775808 → (m < 0 → a0 < 0) → -9223372036854775808 ≤ m → m ≤ 9223372036854775807 → acc.length + n ≤ 9223372036854775900 →
    (acc.length ≤ 100) → (∀ j, n / 10 ^ j ≠ 0 → acc.length + j < 30) →
    Ev (fun k => spec_DecText.l0 k a0 (mkB acc) m) (mkB ((if a0 < 0 then [45] else []) ++ ((if n = 0 then [] else Lib.decDigits n) ++ acc))) := by
  intro n
  induction n using Nat.strongRecOn with
  | _ n ih =>
    intro m acc hm hn hneg l0 l1 hl hl2 hj
    by_cases z : m = 0
    · have hn0 : n = 0 := by omega
      refine Ev.step (fun k => rfl) (ev_if_pos z ?_)
      rw [if_pos hn0]
      by_cases ha : a0 < 0
      · refine ev_if_pos ha (ev_if_pos (by rw [mkB_size]; omega) (ev_conv (ev_some fun _ => rfl) ?_))
        rw [if_pos ha]
        exact mkB_append [45] acc
      · exact ev_if_neg ha (ev_conv (ev_some fun _ => rfl) (by rw [if_neg ha]; rfl))
    · have hn0 : 0 < n := by omega
      have hj0 := hj 0 (by simp; omega)
      have hd : n % 10 < 10 := Nat.mod_lt _ (by omega)
      have rest : Ev (fun k => spec_DecText.l0 k a0 (mkB (UInt8.ofNat (48 + n % 10) :: acc)) (wrap64 (Int.tdiv m 10))) (mkB ((if a0 < 0 then [45] else []) ++ ((if n = 0 then [] else Lib.decDigits n) ++ acc))) := by
        have hq : (Int.tdiv m 10).natAbs = n / 10 := by rw [Int.natAbs_tdiv, hm]; rfl
        have hb : -9223372036854775808 ≤ Int.tdiv m 10 ∧ Int.tdiv m 10 ≤ 9223372036854775807 := by omega
        rw [wrap_id hb.1 hb.2]
        have hs : Int.tdiv m 10 < 0 → m < 0 := by
          intro h
          rcases Int.lt_or_le m 0 with g | g
          · exact g
          · have := Int.tdiv_nonneg g (show (0 : Int) ≤ 10 by decide)
            omega
        refine ev_conv (ih (n / 10) (by omega) (Int.tdiv m 10) (UInt8.ofNat (48 + n % 10) :: acc) hq (by omega) (fun h => hneg (hs h)) hb.1 hb.2 (by simp; omega) (by simp; omega) (fun j h => ?_)) ?_
        · have := hj (j + 1) (by rwa [Nat.pow_succ, Nat.mul_comm, ← Nat.div_div_eq_div_mul])
          simp
          omega
        · rw [if_neg (show ¬ n = 0 by omega), decDigits_pos hn0]
          simp
      have cut : ∀ (d : Int), d = ((n % 10 : Nat) : Int) → ((⟨#[48, 49, 50, 51, 52, 53, 54, 55, 56, 57]⟩ : ByteArray).extract d.toNat (wrap64 (d + 1)).toNat) ++ mkB acc = mkB (UInt8.ofNat (48 + n % 10) :: acc) ∧ ((⟨#[48, 49, 50, 51, 52, 53, 54, 55, 56, 57]⟩ : ByteArray).extract d.toNat (wrap64 (d + 1)).toNat).size + (mkB acc).size ≤ 9223372036854775807 := by
        intro d hd'
        rw [wrap_id (x := d + 1) (by omega) (by omega), show d.toNat = n % 10 by omega, show (d + 1).toNat = n % 10 + 1 by omega, digit_cut _ hd, mkB_append, mkB_size, mkB_size]
        exact ⟨rfl, by simp; omega⟩
      refine Ev.step (fun k => rfl) (ev_if_neg z ?_)
      have ht : (Int.tmod m 10).natAbs = n % 10 := by rw [Int.natAbs_tmod, hm]; rfl
      by_cases s : Int.tmod m 10 < 0
      · have e : wrap64 (-(Int.tmod m 10)) = ((n % 10 : Nat) : Int) := by rw [wrap_id (by omega) (by omega)]; omega
        obtain ⟨c1, c2⟩ := cut _ e
        refine ev_if_pos s (ev_if_pos (by omega) (ev_if_pos (by rw [wrap_id (x := wrap64 (-(Int.tmod m 10)) + 1) (by omega) (by omega)]; omega) (ev_if_pos (by rw [wrap_id (x := wrap64 (-(Int.tmod m 10)) + 1) (by omega) (by omega)]; omega) (ev_if_pos c2 ?_))))
        rw [c1]
        exact rest
      · have e : Int.tmod m 10 = ((n % 10 : Nat) : Int) := by omega
        obtain ⟨c1, c2⟩ := cut _ e
        refine ev_if_neg s (ev_if_pos (by omega) (ev_if_pos (by rw [wrap_id (x := Int.tmod m 10 + 1) (by omega) (by omega)]; omega) (ev_if_pos (by rw [wrap_id (x := Int.tmod m 10 + 1) (by omega) (by omega)]; omega) (ev_if_pos c2 ?_))))
        rw [c1]
        exact rest
theorem specDecText_is (a0 : Int) (h0 : -9223372036854775808 ≤ a0) (h1 : a0 ≤ 9223372036854775807) : Ev (fun k => spec_DecText.f k a0) (mkB (Lib.itoa a0)) := by
  by_cases z : a0 = 0
  · refine ev_if_pos z (ev_conv (ev_some fun _ => rfl) ?_)
    subst z
    rw [Lib.itoa, if_neg (by decide), Lib.decDigits, dif_pos (by decide)]
    rfl
  · refine ev_if_neg z (ev_conv (decLoop_is a0 h0 h1 a0.natAbs a0 [] rfl (by omega) (fun h => h) h0 h1 (by simp; omega) (by simp) (fun j h => ?_)) ?_)
    · have hlt : 10 ^ j ≤ a0.natAbs := by
        rcases Nat.lt_or_ge a0.natAbs (10 ^ j) with g | g
        · exact absurd (Nat.div_eq_of_lt g) h
        · exact g
      simp
      rcases Nat.lt_or_ge j 30 with g | g
      · exact g
      · have := Nat.pow_le_pow_right (show 0 < 10 by decide) g
        have e : (10 : Nat) ^ 30 = 1000000000000000000000000000000 := by decide
        omega
    · rw [if_neg (show ¬ a0.natAbs = 0 by omega), List.append_nil, Lib.itoa]
      by_cases s : a0 < 0
      · rw [if_pos s, if_pos s]
        rfl
      · rw [if_neg s, if_neg s, show a0.toNat = a0.natAbs by omega]
        rfl
theorem decDigits_len10 : ∀ (k u : Nat), u < 10 ^ (k + 1) → (Lib.decDigits u).length ≤ k + 1
  | k, u, h => by
    by_cases h10 : u < 10
    · rw [Lib.decDigits, dif_pos h10]
      simp
    · rw [Lib.decDigits, dif_neg h10]
      cases k with
      | zero => omega
      | succ k =>
        have := decDigits_len10 k (u / 10) (by rw [Nat.pow_succ] at h; omega)
        simp
        omega
theorem itoa_len {b : Int} (h0 : -9223372036854775808 ≤ b) (h1 : b ≤ 9223372036854775807) : (Lib.itoa b).length ≤ 21 := by
  have e : (10 : Nat) ^ (19 + 1) = 100000000000000000000 := by decide
  rw [Lib.itoa]
  by_cases s : b < 0
  · rw [if_pos s]
    have := decDigits_len10 19 b.natAbs (by omega)
    simp
    omega
  · rw [if_neg s]
    have := decDigits_len10 19 b.toNat (by omega)
    omega
theorem implDecText_is (a0 : Int) (h0 : -9223372036854775808 ≤ a0) (h1 : a0 ≤ 9223372036854775807) : impl_DecText.f a0 = some (mkB (Lib.itoa a0)) := by
  unfold impl_DecText.f strconv_Itoa.f
  rw [if_pos h0, if_pos h1]
  rfl
/-! #### a text in quotes -/
/-- Each quote is written twice. -/
def dbl (l : List UInt8) : List UInt8 := l.flatMap fun b => if b = 39 then [39, 39] else [b]
theorem dbl_nil : dbl [] = [] := rfl
theorem dbl_cons (b : UInt8) (l : List UInt8) : dbl (b :: l) = (if b = 39 then [39, 39] else [b]) ++ dbl l := by simp [dbl]
theorem dbl_len (l : List UInt8) : (dbl l).length ≤ 2 * l.length := by
  induction l with
  | nil => exact Nat.le_refl _
  | cons b l ih =>
    rw [dbl_cons, List.length_append, List.length_cons]
    by_cases h : b = 39
    · rw [if_pos h]
      simp
      omega
    · rw [if_neg h]
      simp
      omega
theorem cut_one (s : ByteArray) (i : Nat) (h : i < s.data.toList.length) : s.extract i (i + 1) = mkB [s.data.toList.getD i 0] := by
  rw [extract_mk, drop_cons_getD 0 h, show i + 1 - i = 1 by omega]
  rfl
theorem quoteLoop_is (s : ByteArray) (hs : s.data.toList.length ≤ 1000000000000) : ∀ (n i : Nat) (acc : List UInt8), s.data.toList.length - i = n → i ≤ s.data.toList.length → acc.length ≤ 2 * i + 1 → Ev (fun k => spec_l01Quote.l0 k s (mkB acc) i) (mkB (acc ++ (dbl (s.data.toList.drop i) ++ [39]))) := by
  have hz := size_data s
  intro n
  induction n with
  | zero =>
    intro i acc h1 h2 h3
    have e : i = s.data.toList.length := by omega
    refine Ev.step (fun k => rfl) (ev_if_neg (by omega) (ev_if_pos (by rw [mkB_size]; omega) (ev_conv (ev_some fun _ => rfl) ?_)))
    rw [e, List.drop_length, dbl_nil]
    exact mkB_append acc [39]
  | succ n ih =>
    intro i acc h1 h2 h3
    have hi : i < s.data.toList.length := by omega
    have hw : wrap64 ((i : Int) + 1) = ((i + 1 : Nat) : Int) := wrap_succ hi (by omega)
    have hc : s.extract (i : Int).toNat (wrap64 ((i : Int) + 1)).toNat = mkB [s.data.toList.getD i 0] := by
      rw [hw]
      exact cut_one s i hi
    have hb : bt s i = ((s.data.toList.getD i 0).toNat : Int) := bt_data s i
    refine Ev.step (fun k => rfl) (ev_if_pos (by omega) (ev_if_pos (by omega) (ev_if_pos (by rw [hw]; omega) (ev_if_pos (by rw [hw]; omega) ?_))))
    rw [hc, hb, drop_cons_getD 0 hi, dbl_cons]
    generalize s.data.toList.getD i 0 = c
    refine ev_if_pos (by rw [mkB_size, mkB_size, List.length_singleton]; omega) ?_
    rw [mkB_append]
    by_cases h : c = 39
    · refine ev_if_pos (by rw [h]; rfl) (ev_if_pos (by rw [mkB_size, List.length_append, List.length_singleton]; omega) ?_)
      rw [show (⟨#[39]⟩ : ByteArray) = mkB [39] from rfl, mkB_append, hw]
      refine ev_conv (ih (i + 1) _ (by omega) (by omega) (by simp; omega)) ?_
      rw [if_pos h, h]
      simp
    · refine ev_if_neg (fun g => h (UInt8.toNat.inj (by rw [show (39 : UInt8).toNat = 39 from rfl]; omega))) ?_
      rw [hw]
      refine ev_conv (ih (i + 1) _ (by omega) (by omega) (by simp; omega)) ?_
      rw [if_neg h]
      simp
theorem specQuote_is (s : ByteArray) (hs : s.data.toList.length ≤ 1000000000000) : Ev (fun k => spec_l01Quote.f k s) (mkB (39 :: (dbl s.data.toList ++ [39]))) :=
  quoteLoop_is s hs _ 0 [39] rfl (Nat.zero_le _) (Nat.le_refl _)
theorem replaceK_miss {old new : List UInt8} {k : Nat} {s : List UInt8} (h : Lib.index s old = -1) : Lib.replaceK old new k s = s := by
  cases k with
  | zero => rfl
  | succ k => rw [Lib.replaceK, if_pos (by rw [h]; rfl)]
theorem replaceK_dbl : ∀ (l : List UInt8) (k : Nat), l.count 39 ≤ k → Lib.replaceK [39] [39, 39] k l = dbl l
  | [], k, _ => by rw [replaceK_miss (by rfl)]; rfl
  | b :: l, k, hk => by
    rw [dbl_cons]
    by_cases h : b = 39
    · subst h
      rw [if_pos rfl]
      rw [List.count_cons_self] at hk
      cases k with
      | zero => omega
      | succ k =>
        rw [Lib.replaceK_hit [39] [39, 39] k (39 :: l) 0 (by rfl)]
        rw [show (39 :: l).drop (0 + [(39 : UInt8)].length) = l from rfl, replaceK_dbl l k (by omega)]
        rfl
    · rw [if_neg h]
      rw [List.count_cons_of_ne (fun g => h (by simpa using g))] at hk
      have ih := replaceK_dbl l k hk
      have hp : ([39] : List UInt8).isPrefixOf (b :: l) = false := by
        simp [List.isPrefixOf]
        exact fun g => h g.symm
      have hx : Lib.index (b :: l) [39] = if Lib.index l [39] == -1 then -1 else Lib.index l [39] + 1 := by
        rw [Lib.index, hp]
        rfl
      rw [← ih]
      cases k with
      | zero => rfl
      | succ k =>
        by_cases hm : Lib.index l [39] = -1
        · rw [replaceK_miss hm, replaceK_miss (by rw [hx, hm]; rfl)]
          rfl
        · have hge := Lib.index_ge l [39]
          obtain ⟨i, hi⟩ : ∃ i : Nat, Lib.index l [39] = i := ⟨(Lib.index l [39]).toNat, by omega⟩
          rw [Lib.replaceK_hit [39] [39, 39] k l i hi, Lib.replaceK_hit [39] [39, 39] k (b :: l) (i + 1) (by rw [hx, hi, if_neg (by intro g; have := beq_iff_eq.1 g; omega)]; rfl)]
          rw [show i + 1 + [(39 : UInt8)].length = (i + [(39 : UInt8)].length) + 1 by omega, List.drop_succ_cons, List.take_succ_cons]
          rfl
theorem replaceAll_dbl (l : List UInt8) : Lib.replaceAll l [39] [39, 39] = dbl l := by
  unfold Lib.replaceAll Lib.replace Lib.replaceNum
  rw [if_neg (by decide), if_pos (Or.inl (by decide)), Lib.count_one]
  exact replaceK_dbl l _ (Nat.le_refl _)
theorem replaceAll_is (s : ByteArray) (hs : s.data.toList.length ≤ 1000000) : strings_ReplaceAll.f s ⟨#[39]⟩ ⟨#[39, 39]⟩ = some (mkB (dbl s.data.toList)) := by
  have hz := size_data s
  unfold strings_ReplaceAll.f
  have h1 : 1 ≤ (⟨#[39]⟩ : ByteArray).size := Nat.le_refl 1
  have hc : Lib.countB s ⟨#[39]⟩ ≤ s.size := Lib.countB_le ⟨#[39]⟩ h1 s.size s (Nat.le_refl _)
  have h2 : (⟨#[39, 39]⟩ : ByteArray).size = 2 := rfl
  rw [if_pos ⟨by omega, h1, by rw [h2]; omega⟩]
  exact congrArg some (congrArg mkB (replaceAll_dbl s.data.toList))
/-- The text of a value. -/
def vtext (a b : Int) (s : List UInt8) : List UInt8 := if okV a b s then (if a = 0 then [110, 117, 108, 108] else if a = 1 then Lib.itoa b else if a = 3 then 39 :: (dbl s ++ [39]) else if b = 1 then [116, 114, 117, 101] else [102, 97, 108, 115, 101]) else []
theorem okV_kinds {a b : Int} {s : List UInt8} (h : okV a b s = true) : a = 0 ∨ a = 1 ∨ a = 2 ∨ (a = 3 ∧ s.length ≤ 100) := by
  unfold okV at h
  by_cases h0 : a = 0
  · exact Or.inl h0
  by_cases h1 : a = 1
  · exact Or.inr (Or.inl h1)
  by_cases h2 : a = 2
  · exact Or.inr (Or.inr (Or.inl h2))
  rw [if_neg h0, if_neg h1, if_neg h2] at h
  by_cases h3 : a = 3
  · rw [if_pos h3, Bool.and_eq_true] at h
    exact Or.inr (Or.inr (Or.inr ⟨h3, of_decide_eq_true h.2⟩))
  · rw [if_neg h3] at h
    cases h
theorem specValueText_is (a b : Int) (s : ByteArray) (h0 : -9223372036854775808 ≤ b) (h1 : b ≤ 9223372036854775807) : Ev (fun k => spec_ValueText.f k a b s) (mkB (vtext a b s.data.toList)) := by
  refine ev_bind0 (specValueOk_is a b s) ?_
  unfold vtext
  by_cases ok : okV a b s.data.toList = true
  · have hk := okV_kinds ok
    refine ev_if_pos ok ?_
    rw [if_pos ok]
    by_cases k0 : a = 0
    · refine ev_if_pos k0 (ev_conv (ev_some fun _ => rfl) ?_)
      rw [if_pos k0]
      rfl
    rw [if_neg k0]
    refine ev_if_neg k0 ?_
    by_cases k1 : a = 1
    · rw [if_pos k1]
      exact ev_if_pos k1 (Ev.bind (specDecText_is b h0 h1) (ev_some fun _ => rfl))
    rw [if_neg k1]
    refine ev_if_neg k1 ?_
    by_cases k3 : a = 3
    · rw [if_pos k3]
      exact ev_if_pos k3 (Ev.bind (specQuote_is s (by omega)) (ev_some fun _ => rfl))
    rw [if_neg k3]
    refine ev_if_neg k3 ?_
    by_cases n1 : b = 1
    · exact ev_if_pos n1 (ev_conv (ev_some fun _ => rfl) (by rw [if_pos n1]; rfl))
    · exact ev_if_neg n1 (ev_conv (ev_some fun _ => rfl) (by rw [if_neg n1]; rfl))
  · rw [if_neg ok]
    exact ev_if_neg ok (ev_some fun _ => rfl)
theorem implValueText_is (a b : Int) (s : ByteArray) (h0 : -9223372036854775808 ≤ b) (h1 : b ≤ 9223372036854775807) : impl_ValueText.f a b s = some (mkB (vtext a b s.data.toList)) := by
  unfold impl_ValueText.f
  rw [implValueOk_is, Option.bind_some]
  unfold vtext
  by_cases ok : okV a b s.data.toList = true
  · have hk := okV_kinds ok
    rw [if_pos ok, if_pos ok]
    by_cases k0 : a = 0
    · rw [if_pos k0, if_pos k0]
      rfl
    rw [if_neg k0, if_neg k0]
    by_cases k1 : a = 1
    · rw [if_pos k1, if_pos k1, implDecText_is b h0 h1]
      rfl
    rw [if_neg k1, if_neg k1]
    by_cases k2 : a = 2
    · rw [if_pos k2, if_neg (show ¬ a = 3 by omega)]
      by_cases n1 : b = 1
      · subst n1
        rfl
      · rw [if_neg n1, show (b == 1) = false from beq_eq_false_iff_ne.2 n1]
        rfl
    have k3 : a = 3 ∧ s.data.toList.length ≤ 100 := by omega
    have hd := dbl_len s.data.toList
    rw [if_neg k2, if_pos k3.1, replaceAll_is s (by omega), Option.bind_some, if_pos (by rw [mkB_size]; omega), show (⟨#[39]⟩ : ByteArray) = mkB [39] from rfl, mkB_append, if_pos (by rw [mkB_size]; simp; omega), mkB_append]
    simp
  · rw [if_neg ok, if_neg ok]
    rfl
theorem vtext_len (a b : Int) (s : List UInt8) (h0 : -9223372036854775808 ≤ b) (h1 : b ≤ 9223372036854775807) : (vtext a b s).length ≤ 300 := by
  unfold vtext
  by_cases ok : okV a b s = true
  · have hk := okV_kinds ok
    have hi := itoa_len h0 h1
    have hd := dbl_len s
    rw [if_pos ok]
    by_cases k0 : a = 0
    · rw [if_pos k0]
      simp
    rw [if_neg k0]
    by_cases k1 : a = 1
    · rw [if_pos k1]
      omega
    rw [if_neg k1]
    by_cases k3 : a = 3
    · rw [if_pos k3]
      simp
      omega
    rw [if_neg k3]
    by_cases n1 : b = 1
    · rw [if_pos n1]
      simp
    · rw [if_neg n1]
      simp
  · rw [if_neg ok]
    simp
/-! #### what is drawn -/
theorem and255 (n : Int) : Go.bits .and .i64 n 255 = n % 256 := by
  have e : Go.bits .and .i64 n 255 = IntKind.i64.wrap (((BitVec.ofInt 64 n) &&& (BitVec.ofInt 64 255)).toNat : Int) := rfl
  rw [e, BitVec.toNat_and, BitVec.toNat_ofInt, show (BitVec.ofInt 64 255).toNat = 2 ^ 8 - 1 from rfl, Nat.and_two_pow_sub_one_eq_mod, IntKind.wrap_i64]
  have : (n % ((2 ^ 64 : Nat) : Int)).toNat % 2 ^ 8 = (n % 256).toNat := by
    have h : (2 ^ 64 : Nat) = 18446744073709551616 := by decide
    rw [h]
    omega
  rw [this]
  omega
theorem byte_is (l : List Int) (i h : Int) (h0 : 0 ≤ i) (hl : l.length ≤ 1048576) (hi : i ≤ 1048576) : ∃ x i' h', spec_l01Byte.f l i h = some (x, i', h') ∧ 0 ≤ x ∧ x ≤ 255 ∧ 0 ≤ i' ∧ i' ≤ 1048576 := by
  unfold spec_l01Byte.f
  by_cases c : i < (l.length : Int)
  · rw [if_pos c, if_pos h0]
    refine ⟨_, _, _, rfl, ?_, ?_, ?_, ?_⟩
    · rw [and255]; omega
    · rw [and255]; omega
    · rw [wrap_id (by omega) (by omega)]; omega
    · rw [wrap_id (by omega) (by omega)]; omega
  · rw [if_neg c]
    refine ⟨_, _, _, rfl, ?_, ?_, h0, hi⟩
    · rw [and255]; omega
    · rw [and255]; omega
theorem below_is (l : List Int) (i h n : Int) (h0 : 0 ≤ i) (hl : l.length ≤ 1048576) (hi : i ≤ 1048576) : ∃ x i' h', spec_l01Below.f l i h n = some (x, i', h') ∧ 0 ≤ x ∧ (0 < n → x < n) ∧ 0 ≤ i' ∧ i' ≤ 1048576 := by
  unfold spec_l01Below.f
  by_cases c : n ≤ 0
  · rw [if_pos c]
    exact ⟨0, i, h, rfl, by omega, fun g => by omega, h0, hi⟩
  rw [if_neg c]
  by_cases d : n ≤ 256
  · rw [if_pos d]
    obtain ⟨x, i1, h1, e, x0, x1, g0, g1⟩ := byte_is l i h h0 hl hi
    rw [e, Option.bind_some, if_neg (by omega)]
    refine ⟨_, _, _, rfl, ?_, fun _ => ?_, g0, g1⟩
    · exact Int.tmod_nonneg _ x0
    · exact Int.tmod_lt_of_pos _ (by omega)
  · rw [if_neg d]
    obtain ⟨x, i1, h1, e1, x0, x1, g0, g1⟩ := byte_is l i h h0 hl hi
    obtain ⟨y, i2, h2, e2, y0, y1, g2, g3⟩ := byte_is l i1 h1 g0 hl g1
    obtain ⟨z, i3, h3, e3, z0, z1, g4, g5⟩ := byte_is l i2 h2 g2 hl g3
    obtain ⟨w, i4, h4, e4, w0, w1, g6, g7⟩ := byte_is l i3 h3 g4 hl g5
    simp only [e1, e2, e3, e4, Option.bind_some]
    rw [if_neg (by omega)]
    refine ⟨_, _, _, rfl, ?_, fun _ => ?_, g6, g7⟩
    · refine Int.tmod_nonneg _ ?_
      unfold wrap64
      omega
    · exact Int.tmod_lt_of_pos _ (by omega)
theorem once_is (l : List Int) (i h n : Int) (h0 : 0 ≤ i) (hl : l.length ≤ 1048576) (hi : i ≤ 1048576) : ∃ x i' h', spec_l01Once.f l i h n = some (x, i', h') ∧ 0 ≤ i' ∧ i' ≤ 1048576 := by
  obtain ⟨x, i1, h1, e, _, _, g0, g1⟩ := below_is l i h n h0 hl hi
  unfold spec_l01Once.f
  rw [e]
  exact ⟨_, _, _, rfl, g0, g1⟩
theorem pickInt_is (l : List Int) (i h : Int) (xs : List Int) (hx : 0 < xs.length) (h0 : 0 ≤ i) (hl : l.length ≤ 1048576) (hi : i ≤ 1048576) : ∃ x i' h', spec_l01PickInt.f l i h xs = some (x, i', h') ∧ x ∈ xs ∧ 0 ≤ i' ∧ i' ≤ 1048576 := by
  obtain ⟨x, i1, h1, e, x0, x1, g0, g1⟩ := below_is l i h (xs.length : Int) h0 hl hi
  have x2 := x1 (by omega)
  unfold spec_l01PickInt.f
  rw [e, Option.bind_some, if_pos x0, if_pos x2]
  exact ⟨_, _, _, rfl, getD_mem 0 (by omega), g0, g1⟩
theorem pick_is (l : List Int) (i h : Int) (xs : List ByteArray) (hx : 0 < xs.length) (h0 : 0 ≤ i) (hl : l.length ≤ 1048576) (hi : i ≤ 1048576) : ∃ x i' h', spec_l01Pick.f l i h xs = some (x, i', h') ∧ x ∈ xs ∧ 0 ≤ i' ∧ i' ≤ 1048576 := by
  obtain ⟨x, i1, h1, e, x0, x1, g0, g1⟩ := below_is l i h (xs.length : Int) h0 hl hi
  have x2 := x1 (by omega)
  unfold spec_l01Pick.f
  rw [e, Option.bind_some, if_pos x0, if_pos x2]
  exact ⟨_, _, _, rfl, getD_mem ByteArray.empty (by omega), g0, g1⟩
theorem new_is (l : List Int) (hl : l.length ≤ 1048576) : ∃ h, Ev (fun k => spec_l01New.f k l) (l, 0, h) := by
  have loop : ∀ (n i : Nat) (h : Int), l.length - i = n → i ≤ l.length → ∃ h', Ev (fun k => spec_l01New.l0 k l h i) (l, 0, h') := by
    intro n
    induction n with
    | zero =>
      intro i h h1 h2
      exact ⟨h, Ev.step (fun k => rfl) (ev_if_neg (by omega) (ev_some fun _ => rfl))⟩
    | succ n ih =>
      intro i h h1 h2
      by_cases c : (i : Int) < 4000
      · obtain ⟨h', e⟩ := ih (i + 1) (Go.bits .and .i64 (wrap64 ((wrap64 ((wrap64 (h * 131)) + (wrap64 (rd l (i : Int))))) + 7)) 1073741823) (by omega) (by omega)
        refine ⟨h', Ev.step (fun k => rfl) (ev_if_pos (by omega) (ev_if_pos c (ev_if_pos (by omega) ?_)))⟩
        rw [wrap_succ (n := l.length) (by omega) (by omega)]
        exact e
      · exact ⟨h, Ev.step (fun k => rfl) (ev_if_pos (by omega) (ev_if_neg c (ev_some fun _ => rfl)))⟩
  obtain ⟨h', e⟩ := loop _ 0 (wrap64 (312312 + (l.length : Int))) rfl (Nat.zero_le _)
  exact ⟨h', Ev.congr (fun k => rfl) e⟩
/-- A value that is drawn. -/
def okD (a b : Int) (s : ByteArray) : Prop := -9223372036854775808 ≤ a ∧ a ≤ 9223372036854775807 ∧ -9223372036854775808 ≤ b ∧ b ≤ 9223372036854775807 ∧ s.size ≤ 20
theorem drawVal_is (l : List Int) (i h : Int) (h0 : 0 ≤ i) (hl : l.length ≤ 1048576) (hi : i ≤ 1048576) : ∃ a b s i' h', Ev (fun k => spec_l01Value.f k l i h) (a, b, s, i', h') ∧ okD a b s ∧ 0 ≤ i' ∧ i' ≤ 1048576 := by
  obtain ⟨x, i1, h1, e, x0, x1, g0, g1⟩ := below_is l i h 9 h0 hl hi
  by_cases c0 : x = 0
  · exact ⟨0, 0, ⟨#[]⟩, i1, h1, ev_bind0 e (ev_if_pos c0 (ev_some fun _ => rfl)), ⟨by decide, by decide, by decide, by decide, by decide⟩, g0, g1⟩
  have num : ∃ a b s i' h', (∀ x, Ev (fun k => spec_l01Value.j0 k x true l i1 h1) (a, b, s, i', h')) ∧ okD a b s ∧ 0 ≤ i' ∧ i' ≤ 1048576 := by
    obtain ⟨y, i2, h2, e2, y0, y1, g2, g3⟩ := below_is l i1 h1 5 g0 hl g1
    have y2 := y1 (by decide)
    exact ⟨1, y, ⟨#[]⟩, i2, h2, fun x => ⟨1, fun k hk => by
      obtain ⟨j, rfl⟩ : ∃ j, k = j + 1 := ⟨k - 1, by omega⟩
      show (spec_l01Below.f l i1 h1 5).bind _ = _
      rw [e2]
      rfl⟩, ⟨by decide, by decide, by show (-9223372036854775808 : Int) ≤ y; omega, by show y ≤ (9223372036854775807 : Int); omega, by decide⟩, g2, g3⟩
  obtain ⟨a, b, s, i', h', en, ok, n0, n1⟩ := num
  by_cases c1 : x = 1
  · exact ⟨a, b, s, i', h', ev_bind0 e (ev_if_neg c0 (ev_if_pos c1 (by rw [show (x == 1) = true from beq_iff_eq.2 c1]; exact en _))), ok, n0, n1⟩
  by_cases c2 : x = 2
  · exact ⟨a, b, s, i', h', ev_bind0 e (ev_if_neg c0 (ev_if_neg c1 (ev_if_pos c2 (by rw [show (x == 2) = true from beq_iff_eq.2 c2]; exact en _)))), ok, n0, n1⟩
  by_cases c3 : x = 3
  · exact ⟨a, b, s, i', h', ev_bind0 e (ev_if_neg c0 (ev_if_neg c1 (ev_if_neg c2 (by rw [show (x == 3) = true from beq_iff_eq.2 c3]; exact en _)))), ok, n0, n1⟩
  clear en ok n0 n1
  have hj : ∀ k, spec_l01Value.j0 (k + 1) x false l i1 h1 = if x = 4 then ((spec_l01PickInt.f l i1 h1 [9223372036854775807, (-9223372036854775808), (-1), 4294967296, (-7), 100]).bind fun bt => ((spec_l01Int.f bt.1).bind fun bu => (some (bu.1, bu.2.1, bu.2.2, bt.2.1, bt.2.2)))) else (if x = 5 then ((spec_l01Once.f l i1 h1 2).bind fun bt => ((spec_l01Bool.f bt.1).bind fun bu => (some (bu.1, bu.2.1, bu.2.2, bt.2.1, bt.2.2)))) else ((spec_l01Pick.f l i1 h1 [(⟨#[97]⟩ : ByteArray), (⟨#[98]⟩ : ByteArray), (⟨#[97, 98]⟩ : ByteArray), (⟨#[]⟩ : ByteArray), (⟨#[105, 116, 39, 115]⟩ : ByteArray)]).bind fun bt => (some (3, 0, bt.1, bt.2.1, bt.2.2)))) := fun k => rfl
  have w3 : (x == 3) = false := beq_eq_false_iff_ne.2 c3
  have top : ∀ r, Ev (fun k => spec_l01Value.j0 k x false l i1 h1) r → Ev (fun k => spec_l01Value.f k l i h) r := fun r hr => by
    rw [← w3] at hr
    exact ev_bind0 e (ev_if_neg c0 (ev_if_neg c1 (ev_if_neg c2 hr)))
  by_cases c4 : x = 4
  · obtain ⟨y, i2, h2, e2, y0, g2, g3⟩ := pickInt_is l i1 h1 [9223372036854775807, (-9223372036854775808), (-1), 4294967296, (-7), 100] (by decide) g0 hl g1
    have yb : -9223372036854775808 ≤ y ∧ y ≤ 9223372036854775807 := by
      simp only [List.mem_cons, List.not_mem_nil, or_false] at y0
      omega
    exact ⟨1, y, ⟨#[]⟩, i2, h2, top _ (Ev.step hj (ev_if_pos c4 (ev_bind0 e2 (ev_some fun _ => rfl)))), ⟨by decide, by decide, yb.1, yb.2, by decide⟩, g2, g3⟩
  by_cases c5 : x = 5
  · obtain ⟨y, i2, h2, e2, g2, g3⟩ := once_is l i1 h1 2 g0 hl g1
    cases y with
    | true => exact ⟨2, 1, ⟨#[]⟩, i2, h2, top _ (Ev.step hj (ev_if_neg c4 (ev_if_pos c5 (ev_bind0 e2 (ev_some fun _ => rfl))))), ⟨by decide, by decide, by decide, by decide, by decide⟩, g2, g3⟩
    | false => exact ⟨2, 0, ⟨#[]⟩, i2, h2, top _ (Ev.step hj (ev_if_neg c4 (ev_if_pos c5 (ev_bind0 e2 (ev_some fun _ => rfl))))), ⟨by decide, by decide, by decide, by decide, by decide⟩, g2, g3⟩
  · obtain ⟨y, i2, h2, e2, y0, g2, g3⟩ := pick_is l i1 h1 [(⟨#[97]⟩ : ByteArray), (⟨#[98]⟩ : ByteArray), (⟨#[97, 98]⟩ : ByteArray), (⟨#[]⟩ : ByteArray), (⟨#[105, 116, 39, 115]⟩ : ByteArray)] (by decide) g0 hl g1
    have ys : y.size ≤ 10 := by
      simp only [List.mem_cons, List.not_mem_nil, or_false] at y0
      rcases y0 with rfl | rfl | rfl | rfl | rfl <;> decide
    exact ⟨3, 0, y, i2, h2, top _ (Ev.step hj (ev_if_neg c4 (ev_if_neg c5 (ev_bind0 e2 (ev_some fun _ => rfl))))), ⟨by decide, by decide, by decide, by decide, by omega⟩, g2, g3⟩
theorem any_is (l : List Int) (i h : Int) (h0 : 0 ≤ i) (hl : l.length ≤ 1048576) (hi : i ≤ 1048576) : ∃ a b s i' h', Ev (fun k => spec_l01Any.f k l i h) (a, b, s, i', h') ∧ -9223372036854775808 ≤ a ∧ a ≤ 9223372036854775807 ∧ -9223372036854775808 ≤ b ∧ b ≤ 9223372036854775807 ∧ s.size ≤ 100 ∧ 0 ≤ i' ∧ i' ≤ 1048576 := by
  obtain ⟨a, b, s, i1, h1, e, ⟨a0, a1, b0, b1, s0⟩, g0, g1⟩ := drawVal_is l i h h0 hl hi
  obtain ⟨x, i2, h2, e2, g2, g3⟩ := once_is l i1 h1 12 g0 hl g1
  have hx : (s ++ (⟨#[120]⟩ : ByteArray)).size ≤ 100 := by
    rw [ByteArray.size_append]
    have : (⟨#[120]⟩ : ByteArray).size = 1 := rfl
    omega
  cases x with
  | true =>
    obtain ⟨y, i3, h3, e3, y0, g4, g5⟩ := pickInt_is l i2 h2 [(-1), 4, 2, 0] (by decide) g2 hl g3
    have yb : -9223372036854775808 ≤ y ∧ y ≤ 9223372036854775807 := by
      simp only [List.mem_cons, List.not_mem_nil, or_false] at y0
      omega
    obtain ⟨z, i4, h4, e4, g6, g7⟩ := once_is l i3 h3 20 g4 hl g5
    cases z with
    | true => exact ⟨_, _, _, _, _, Ev.bind e (ev_bind0 e2 (ev_if_pos rfl (ev_bind0 e3 (ev_bind0 e4 (ev_if_pos rfl (ev_if_pos (by show s.size + 1 ≤ 9223372036854775807; omega) (ev_some fun _ => rfl))))))), yb.1, yb.2, b0, b1, hx, g6, g7⟩
    | false => exact ⟨_, _, _, _, _, Ev.bind e (ev_bind0 e2 (ev_if_pos rfl (ev_bind0 e3 (ev_bind0 e4 (ev_if_neg (by simp) (ev_some fun _ => rfl)))))), yb.1, yb.2, b0, b1, by show s.size ≤ 100; omega, g6, g7⟩
  | false =>
    obtain ⟨z, i4, h4, e4, g6, g7⟩ := once_is l i2 h2 20 g2 hl g3
    cases z with
    | true => exact ⟨_, _, _, _, _, Ev.bind e (ev_bind0 e2 (ev_if_neg (by simp) (ev_bind0 e4 (ev_if_pos rfl (ev_if_pos (by show s.size + 1 ≤ 9223372036854775807; omega) (ev_some fun _ => rfl)))))), a0, a1, b0, b1, hx, g6, g7⟩
    | false => exact ⟨_, _, _, _, _, Ev.bind e (ev_bind0 e2 (ev_if_neg (by simp) (ev_bind0 e4 (ev_if_neg (by simp) (ev_some fun _ => rfl))))), a0, a1, b0, b1, by show s.size ≤ 100; omega, g6, g7⟩
/-! #### the order of values -/
theorem bl_cons (a b : UInt8) (l m : List UInt8) : Op.bytesLess (a :: l) (b :: m) = (decide (a < b) || (a == b && Op.bytesLess l m)) := by rw [Op.bytesLess]
theorem bl_nil (l : List UInt8) : Op.bytesLess l [] = false := by cases l <;> rfl
theorem bl_irrefl : ∀ l, Op.bytesLess l l = false
  | [] => rfl
  | a :: l => by
    rw [bl_cons, bl_irrefl l]
    simp
theorem bl_tri : ∀ l m, Op.bytesLess l m = true ∨ l = m ∨ Op.bytesLess m l = true
  | [], [] => Or.inr (Or.inl rfl)
  | [], _ :: _ => Or.inl rfl
  | _ :: _, [] => Or.inr (Or.inr rfl)
  | a :: l, b :: m => by
    rw [bl_cons, bl_cons]
    rcases Nat.lt_trichotomy a.toNat b.toNat with h | h | h
    · exact Or.inl (by rw [show decide (a < b) = true from decide_eq_true h, Bool.true_or])
    · have e : a = b := UInt8.toNat_inj.1 h
      subst e
      rcases bl_tri l m with g | g | g
      · exact Or.inl (by simp [g])
      · exact Or.inr (Or.inl (by rw [g]))
      · exact Or.inr (Or.inr (by simp [g]))
    · exact Or.inr (Or.inr (by rw [show decide (b < a) = true from decide_eq_true h, Bool.true_or]))
theorem bl_trans : ∀ {l m n : List UInt8}, Op.bytesLess l m = true → Op.bytesLess m n = true → Op.bytesLess l n = true
  | _, [], _, h, _ => by rw [bl_nil] at h; cases h
  | _, _ :: _, [], _, h => by rw [bl_nil] at h; cases h
  | [], _ :: _, _ :: _, _, _ => rfl
  | a :: l, b :: m, c :: n, h, g => by
    rw [bl_cons, Bool.or_eq_true, decide_eq_true_eq, Bool.and_eq_true, beq_iff_eq] at *
    rcases h with h | ⟨rfl, h⟩
    · rcases g with g | ⟨rfl, g⟩
      · exact Or.inl (Nat.lt_trans h g)
      · exact Or.inl h
    · rcases g with g | ⟨rfl, g⟩
      · exact Or.inl g
      · exact Or.inr ⟨rfl, bl_trans h g⟩
theorem bl_asymm {l m : List UInt8} (h : Op.bytesLess l m = true) : Op.bytesLess m l = false := by
  cases g : Op.bytesLess m l with
  | false => rfl
  | true => exact absurd (bl_trans h g) (by rw [bl_irrefl]; simp)
/-- Is one value ahead of another. -/
def ltV (a b : Int) (s : List UInt8) (a' b' : Int) (s' : List UInt8) : Prop := a < a' ∨ (a = a' ∧ (b < b' ∨ (b = b' ∧ Op.bytesLess s s' = true)))
theorem cmpV_cases (a b : Int) (s : ByteArray) (a' b' : Int) (s' : ByteArray) :
    (cmpV a b s a' b' s' = -1 ∧ ltV a b s.toList a' b' s'.toList) ∨ (cmpV a b s a' b' s' = 0 ∧ a = a' ∧ b = b' ∧ s.toList = s'.toList) ∨ (cmpV a b s a' b' s' = 1 ∧ ltV a' b' s'.toList a b s.toList) := by
  unfold cmpV ltV
  by_cases h1 : a < a'
  · rw [if_pos h1]; exact Or.inl ⟨rfl, Or.inl h1⟩
  rw [if_neg h1]
  by_cases h2 : a' < a
  · rw [if_pos h2]; exact Or.inr (Or.inr ⟨rfl, Or.inl h2⟩)
  rw [if_neg h2]
  have e1 : a = a' := by omega
  by_cases h3 : b < b'
  · rw [if_pos h3]; exact Or.inl ⟨rfl, Or.inr ⟨e1, Or.inl h3⟩⟩
  rw [if_neg h3]
  by_cases h4 : b' < b
  · rw [if_pos h4]; exact Or.inr (Or.inr ⟨rfl, Or.inr ⟨e1.symm, Or.inl h4⟩⟩)
  rw [if_neg h4]
  have e2 : b = b' := by omega
  rcases bl_tri s.toList s'.toList with h | h | h
  · rw [if_pos h]; exact Or.inl ⟨rfl, Or.inr ⟨e1, Or.inr ⟨e2, h⟩⟩⟩
  · rw [h, bl_irrefl]; exact Or.inr (Or.inl ⟨by simp, e1, e2, rfl⟩)
  · have hn : s.toList ≠ s'.toList := fun e => by rw [e, bl_irrefl] at h; cases h
    rw [bl_asymm h, if_neg (by simp), if_neg (by simp [hn])]
    exact Or.inr (Or.inr ⟨rfl, Or.inr ⟨e1.symm, Or.inr ⟨e2.symm, h⟩⟩⟩)
theorem ltV_trans {a b c : Int} {a' b' c' : Int} {s t u : List UInt8} (h : ltV a a' s b b' t) (g : ltV b b' t c c' u) : ltV a a' s c c' u := by
  unfold ltV at *
  rcases h with h | ⟨rfl, h | ⟨rfl, h⟩⟩
  · rcases g with g | ⟨rfl, _⟩
    · exact Or.inl (by omega)
    · exact Or.inl h
  · rcases g with g | ⟨rfl, g | ⟨rfl, g⟩⟩
    · exact Or.inl g
    · exact Or.inr ⟨rfl, Or.inl (by omega)⟩
    · exact Or.inr ⟨rfl, Or.inl h⟩
  · rcases g with g | ⟨rfl, g | ⟨rfl, g⟩⟩
    · exact Or.inl g
    · exact Or.inr ⟨rfl, Or.inl g⟩
    · exact Or.inr ⟨rfl, Or.inr ⟨rfl, bl_trans h g⟩⟩
theorem ltV_irrefl {a b : Int} {s : List UInt8} : ¬ ltV a b s a b s := by
  unfold ltV
  rintro (h | ⟨_, h | ⟨_, h⟩⟩)
  · omega
  · omega
  · rw [bl_irrefl] at h; cases h
theorem cmpV_anti (a b : Int) (s : ByteArray) (a' b' : Int) (s' : ByteArray) : cmpV a b s a' b' s' = wrap64 (-(cmpV a' b' s' a b s)) := by
  rcases cmpV_cases a b s a' b' s' with ⟨e, h⟩ | ⟨e, e1, e2, h⟩ | ⟨e, h⟩
  · rcases cmpV_cases a' b' s' a b s with ⟨f, g⟩ | ⟨f, g1, g2, g3⟩ | ⟨f, g⟩
    · exact absurd (ltV_trans h g) ltV_irrefl
    · rw [g1, g2, g3] at h; exact absurd h ltV_irrefl
    · rw [e, f]; unfold wrap64; omega
  · rcases cmpV_cases a' b' s' a b s with ⟨f, g⟩ | ⟨f, g1, g2, g3⟩ | ⟨f, g⟩
    · rw [e1, e2, h] at g; exact absurd g ltV_irrefl
    · rw [e, f]; unfold wrap64; omega
    · rw [e1, e2, h] at g; exact absurd g ltV_irrefl
  · rcases cmpV_cases a' b' s' a b s with ⟨f, g⟩ | ⟨f, g1, g2, g3⟩ | ⟨f, g⟩
    · rw [e, f]; unfold wrap64; omega
    · rw [g1, g2, g3] at h; exact absurd h ltV_irrefl
    · exact absurd (ltV_trans h g) ltV_irrefl
theorem cmpV_zero (a b : Int) (s : ByteArray) (a' b' : Int) (s' : ByteArray) : (cmpV a b s a' b' s' == 0) = (a == a' && (b == b' && (s.toList == s'.toList))) := by
  rcases cmpV_cases a b s a' b' s' with ⟨e, h⟩ | ⟨e, rfl, rfl, h⟩ | ⟨e, h⟩
  · rw [e]
    cases g : (a == a' && (b == b' && (s.toList == s'.toList))) with
    | false => rfl
    | true =>
      simp only [Bool.and_eq_true, beq_iff_eq] at g
      obtain ⟨rfl, rfl, g⟩ := g
      rw [g] at h
      exact absurd h ltV_irrefl
  · rw [e, h]
    simp
  · rw [e]
    cases g : (a == a' && (b == b' && (s.toList == s'.toList))) with
    | false => rfl
    | true =>
      simp only [Bool.and_eq_true, beq_iff_eq] at g
      obtain ⟨rfl, rfl, g⟩ := g
      rw [g] at h
      exact absurd h ltV_irrefl
theorem cmpV_le_trans {a b : Int} {s : ByteArray} {a' b' : Int} {s' : ByteArray} {a'' b'' : Int} {s'' : ByteArray} (h : cmpV a b s a' b' s' ≤ 0) (g : cmpV a' b' s' a'' b'' s'' ≤ 0) : ¬ cmpV a b s a'' b'' s'' > 0 := by
  intro k
  rcases cmpV_cases a b s a'' b'' s'' with ⟨e, _⟩ | ⟨e, _⟩ | ⟨_, k'⟩
  · omega
  · omega
  rcases cmpV_cases a b s a' b' s' with ⟨_, h'⟩ | ⟨_, rfl, rfl, h'⟩ | ⟨e, _⟩
  · rcases cmpV_cases a' b' s' a'' b'' s'' with ⟨_, g'⟩ | ⟨_, rfl, rfl, g'⟩ | ⟨e, _⟩
    · exact ltV_irrefl (ltV_trans (ltV_trans h' g') k')
    · rw [g'] at h'; exact ltV_irrefl (ltV_trans h' k')
    · omega
  · rcases cmpV_cases a b s' a'' b'' s'' with ⟨_, g'⟩ | ⟨_, rfl, rfl, g'⟩ | ⟨e, _⟩
    · rw [← h'] at g'; exact ltV_irrefl (ltV_trans g' k')
    · rw [h', g'] at k'; exact ltV_irrefl k'
    · omega
  · omega
/-! #### the bytes of a value, and back -/
theorem u8_toNat {n : Int} (h0 : 0 ≤ n) (h1 : n < 256) : ((u8 n).toNat : Int) = n := by
  unfold u8
  rw [UInt8.toNat_ofNat']
  omega
theorem getV_cons (c : UInt8) (t : List UInt8) : getV (c :: t) = ((if c.toNat = 1 then (if 8 ≤ t.length then some ((1, wrap64 (beN (t.take 8) : Int), []), 9) else none)
    else if c.toNat = 2 then (match t with | [] => none | b :: _ => if b.toNat ≤ 1 then some ((2, (b.toNat : Int), []), 2) else none)
    else if c.toNat = 3 then (match t with | [] => none | m :: u => if m.toNat ≤ 100 ∧ m.toNat ≤ u.length then some ((3, 0, u.take m.toNat), 2 + m.toNat) else none)
    else if c.toNat = 0 then some ((0, 0, []), 1) else none) : Option ((Int × Int × List UInt8) × Nat)) := rfl
theorem be8_len (n : Int) : (be8 n).length = 8 := rfl
theorem beN_8 (c0 c1 c2 c3 c4 c5 c6 c7 : UInt8) : beN [c0, c1, c2, c3, c4, c5, c6, c7] = c0.toNat * 72057594037927936 + c1.toNat * 281474976710656 + c2.toNat * 1099511627776 + c3.toNat * 4294967296 + c4.toNat * 16777216 + c5.toNat * 65536 + c6.toNat * 256 + c7.toNat := by
  simp only [beN, List.foldl_cons, List.foldl_nil]
  omega
theorem be8_back (n : Int) (h0 : -9223372036854775808 ≤ n) (h1 : n ≤ 9223372036854775807) : wrap64 (beN (be8 n) : Int) = n := by
  have g : ∀ w : Int, ((u8 (n / w % 256)).toNat : Int) = n / w % 256 := fun w => u8_toNat (by omega) (by omega)
  have e : (beN (be8 n) : Int) = n / 72057594037927936 % 256 * 72057594037927936 + n / 281474976710656 % 256 * 281474976710656 + n / 1099511627776 % 256 * 1099511627776 + n / 4294967296 % 256 * 4294967296 + n / 16777216 % 256 * 16777216 + n / 65536 % 256 * 65536 + n / 256 % 256 * 256 + n % 256 := by
    have g1 : ((u8 (n % 256)).toNat : Int) = n % 256 := u8_toNat (by omega) (by omega)
    have q := beN_8 (u8 (n / 72057594037927936 % 256)) (u8 (n / 281474976710656 % 256)) (u8 (n / 1099511627776 % 256)) (u8 (n / 4294967296 % 256)) (u8 (n / 16777216 % 256)) (u8 (n / 65536 % 256)) (u8 (n / 256 % 256)) (u8 (n % 256))
    have q' : beN (be8 n) = _ := q
    have := g 72057594037927936
    have := g 281474976710656
    have := g 1099511627776
    have := g 4294967296
    have := g 16777216
    have := g 65536
    have := g 256
    omega
  rw [e]
  unfold wrap64
  omega
theorem okV_kinds0 {a b : Int} {s : List UInt8} (h : okV a b s = true) : (a = 0 ∧ b = 0 ∧ s = []) ∨ (a = 1 ∧ s = []) ∨ (a = 2 ∧ (0 ≤ b ∧ b ≤ 1) ∧ s = []) ∨ (a = 3 ∧ b = 0 ∧ s.length ≤ 100) := by
  unfold okV at h
  by_cases h0 : a = 0
  · rw [if_pos h0, Bool.and_eq_true, beq_iff_eq, List.isEmpty_iff] at h
    exact Or.inl ⟨h0, h⟩
  rw [if_neg h0] at h
  by_cases h1 : a = 1
  · rw [if_pos h1, List.isEmpty_iff] at h
    exact Or.inr (Or.inl ⟨h1, h⟩)
  rw [if_neg h1] at h
  by_cases h2 : a = 2
  · rw [if_pos h2, Bool.and_eq_true, decide_eq_true_eq, List.isEmpty_iff] at h
    exact Or.inr (Or.inr (Or.inl ⟨h2, h⟩))
  rw [if_neg h2] at h
  by_cases h3 : a = 3
  · rw [if_pos h3, Bool.and_eq_true, beq_iff_eq, decide_eq_true_eq] at h
    exact Or.inr (Or.inr (Or.inr ⟨h3, h⟩))
  · rw [if_neg h3] at h
    cases h
/-- What the bytes of a right value are read back as. -/
theorem getV_enc (a b : Int) (s t : List UInt8) (ok : okV a b s = true) (h0 : -9223372036854775808 ≤ b) (h1 : b ≤ 9223372036854775807) : getV (encV a b s ++ t) = some ((a, b, s), (encV a b s).length) := by
  have hk := okV_kinds0 ok
  unfold encV
  rw [if_pos ok]
  rcases hk with ⟨rfl, rfl, rfl⟩ | ⟨rfl, rfl⟩ | ⟨rfl, hb, rfl⟩ | ⟨rfl, rfl, hs⟩
  · rfl
  · rw [if_pos rfl]
    have e : getV (1 :: (be8 b ++ t)) = some ((1, wrap64 (beN ((be8 b ++ t).take 8) : Int), []), 9) := by
      rw [getV_cons, if_pos (by rfl), if_pos (by rw [List.length_append, be8_len]; omega)]
    rw [List.cons_append, e, show (be8 b ++ t).take 8 = be8 b from by rw [List.take_append_of_le_length (by rw [be8_len]; omega), List.take_of_length_le (by rw [be8_len]; omega)], be8_back b h0 h1]
    rfl
  · rw [if_neg (by decide), if_pos rfl]
    have hn := u8_toNat (n := b) (by omega) (by omega)
    show getV (2 :: u8 b :: t) = _
    rw [getV_cons, if_neg (by decide), if_pos (by rfl)]
    show (if (u8 b).toNat ≤ 1 then _ else _) = _
    rw [if_pos (by omega), hn]
    rfl
  · rw [if_neg (by decide), if_neg (by decide), if_pos rfl]
    have hn := u8_toNat (n := (s.length : Int)) (by omega) (by omega)
    have hm : (u8 (s.length : Int)).toNat = s.length := by omega
    show getV (3 :: u8 (s.length : Int) :: (s ++ t)) = _
    rw [getV_cons, if_neg (by decide), if_neg (by decide), if_pos (by rfl)]
    show (if (u8 (s.length : Int)).toNat ≤ 100 ∧ (u8 (s.length : Int)).toNat ≤ (s ++ t).length then _ else _) = _
    rw [hm, if_pos ⟨hs, by rw [List.length_append]; omega⟩, List.take_append_of_le_length (Nat.le_refl _), List.take_of_length_le (Nat.le_refl _)]
    simp
    omega
theorem u8_of (c : UInt8) : u8 (c.toNat : Int) = c := by
  unfold u8
  rw [Int.toNat_natCast]
  exact UInt8.toNat_inj.1 (by rw [UInt8.toNat_ofNat']; have := c.toNat_lt; omega)
theorem shft (m a : Int) (h : m = a ∨ m = a - 18446744073709551616) : m % 256 = a % 256 ∧ m / 256 % 256 = a / 256 % 256 ∧ m / 65536 % 256 = a / 65536 % 256 ∧ m / 16777216 % 256 = a / 16777216 % 256 ∧ m / 4294967296 % 256 = a / 4294967296 % 256 ∧ m / 1099511627776 % 256 = a / 1099511627776 % 256 ∧ m / 281474976710656 % 256 = a / 281474976710656 % 256 ∧ m / 72057594037927936 % 256 = a / 72057594037927936 % 256 := by
  rcases h with rfl | rfl
  · exact ⟨rfl, rfl, rfl, rfl, rfl, rfl, rfl, rfl⟩
  · refine ⟨?_, ?_, ?_, ?_, ?_, ?_, ?_, ?_⟩ <;> omega
theorem dig (a q c : Int) (h : a = q * 256 + c) (h0 : 0 ≤ c) (h1 : c < 256) : a / 256 = q ∧ a % 256 = c := by omega
theorem dd2 (a : Int) : a / 65536 = a / 256 / 256 := by omega
theorem dd3 (a : Int) : a / 16777216 = a / 65536 / 256 := by omega
theorem dd4 (a : Int) : a / 4294967296 = a / 16777216 / 256 := by omega
theorem dd5 (a : Int) : a / 1099511627776 = a / 4294967296 / 256 := by omega
theorem dd6 (a : Int) : a / 281474976710656 = a / 1099511627776 / 256 := by omega
theorem dd7 (a : Int) : a / 72057594037927936 = a / 281474976710656 / 256 := by omega
theorem be8_of (c0 c1 c2 c3 c4 c5 c6 c7 : UInt8) : be8 (wrap64 (beN [c0, c1, c2, c3, c4, c5, c6, c7] : Int)) = [c0, c1, c2, c3, c4, c5, c6, c7] := by
  have b : ∀ c : UInt8, 0 ≤ (c.toNat : Int) ∧ (c.toNat : Int) < 256 := fun c => by have := c.toNat_lt; omega
  obtain ⟨a1, h1⟩ : ∃ a : Int, a = (c0.toNat : Int) * 256 + (c1.toNat : Int) := ⟨_, rfl⟩
  obtain ⟨a2, h2⟩ : ∃ a : Int, a = a1 * 256 + (c2.toNat : Int) := ⟨_, rfl⟩
  obtain ⟨a3, h3⟩ : ∃ a : Int, a = a2 * 256 + (c3.toNat : Int) := ⟨_, rfl⟩
  obtain ⟨a4, h4⟩ : ∃ a : Int, a = a3 * 256 + (c4.toNat : Int) := ⟨_, rfl⟩
  obtain ⟨a5, h5⟩ : ∃ a : Int, a = a4 * 256 + (c5.toNat : Int) := ⟨_, rfl⟩
  obtain ⟨a6, h6⟩ : ∃ a : Int, a = a5 * 256 + (c6.toNat : Int) := ⟨_, rfl⟩
  obtain ⟨a7, h7⟩ : ∃ a : Int, a = a6 * 256 + (c7.toNat : Int) := ⟨_, rfl⟩
  have e : (beN [c0, c1, c2, c3, c4, c5, c6, c7] : Int) = a7 := by
    rw [h7, h6, h5, h4, h3, h2, h1]
    simp only [beN, List.foldl_cons, List.foldl_nil]
    omega
  have r0 : 0 ≤ a7 ∧ a7 < 18446744073709551616 := by
    have := b c0; have := b c1; have := b c2; have := b c3; have := b c4; have := b c5; have := b c6; have := b c7
    omega
  rw [e]
  have hm : wrap64 a7 = a7 ∨ wrap64 a7 = a7 - 18446744073709551616 := by
    clear e h7 h6 h5 h4 h3 h2 h1
    unfold wrap64
    omega
  obtain ⟨m0, m1, m2, m3, m4, m5, m6, m7⟩ := shft _ _ hm
  obtain ⟨d7, e7⟩ := dig _ _ _ h7 (b c7).1 (b c7).2
  obtain ⟨d6, e6⟩ := dig _ _ _ h6 (b c6).1 (b c6).2
  obtain ⟨d5, e5⟩ := dig _ _ _ h5 (b c5).1 (b c5).2
  obtain ⟨d4, e4⟩ := dig _ _ _ h4 (b c4).1 (b c4).2
  obtain ⟨d3, e3⟩ := dig _ _ _ h3 (b c3).1 (b c3).2
  obtain ⟨d2, e2⟩ := dig _ _ _ h2 (b c2).1 (b c2).2
  obtain ⟨d1, e1⟩ := dig _ _ _ h1 (b c1).1 (b c1).2
  have e0 : (c0.toNat : Int) % 256 = c0.toNat := Int.emod_eq_of_lt (b c0).1 (b c0).2
  have g : ∀ (x : Int) (c : UInt8), x = (c.toNat : Int) → u8 x = c := fun x c h => by rw [h, u8_of]
  unfold be8
  simp only [List.cons.injEq, and_true]
  refine ⟨g _ _ ?_, g _ _ ?_, g _ _ ?_, g _ _ ?_, g _ _ ?_, g _ _ ?_, g _ _ ?_, g _ _ ?_⟩
  · rw [m7, dd7, dd6, dd5, dd4, dd3, dd2, d7, d6, d5, d4, d3, d2, d1, e0]
  · rw [m6, dd6, dd5, dd4, dd3, dd2, d7, d6, d5, d4, d3, d2, e1]
  · rw [m5, dd5, dd4, dd3, dd2, d7, d6, d5, d4, d3, e2]
  · rw [m4, dd4, dd3, dd2, d7, d6, d5, d4, e3]
  · rw [m3, dd3, dd2, d7, d6, d5, e4]
  · rw [m2, dd2, d7, d6, e5]
  · rw [m1, d7, e6]
  · rw [m0, e7]
/-- What is read back has no other bytes. -/
theorem getV_can (l : List UInt8) (a b : Int) (x : List UInt8) (n : Nat) (h : getV l = some ((a, b, x), n)) : encV a b x = l.take n ∧ n ≤ l.length ∧ 0 < n ∧ x.length ≤ 100 := by
  cases l with
  | nil => cases h
  | cons c t =>
    have cEq : ∀ m : UInt8, c.toNat = m.toNat → c = m := fun m e => UInt8.toNat_inj.1 e
    rw [getV_cons] at h
    by_cases k1 : c.toNat = 1
    · rw [if_pos k1] at h
      by_cases k : 8 ≤ t.length
      · rw [if_pos k] at h
        obtain ⟨⟨rfl, rfl, rfl⟩, rfl⟩ : (1 = a ∧ wrap64 (beN (t.take 8) : Int) = b ∧ [] = x) ∧ 9 = n := by simpa using h
        match t, k with
        | c0 :: c1 :: c2 :: c3 :: c4 :: c5 :: c6 :: c7 :: r, _ =>
          refine ⟨?_, by simp, by decide, by simp⟩
          rw [show (c0 :: c1 :: c2 :: c3 :: c4 :: c5 :: c6 :: c7 :: r).take 8 = [c0, c1, c2, c3, c4, c5, c6, c7] from rfl]
          unfold encV
          rw [if_pos (by rfl), if_pos rfl, be8_of, cEq 1 k1]
          rfl
      · rw [if_neg k] at h
        cases h
    rw [if_neg k1] at h
    by_cases k2 : c.toNat = 2
    · rw [if_pos k2] at h
      cases t with
      | nil => cases h
      | cons m r =>
        by_cases k : m.toNat ≤ 1
        · have h' : some (((2 : Int), (m.toNat : Int), ([] : List UInt8)), 2) = some ((a, b, x), n) := by
            have e : (if m.toNat ≤ 1 then some (((2 : Int), (m.toNat : Int), ([] : List UInt8)), 2) else none) = some ((a, b, x), n) := h
            rwa [if_pos k] at e
          obtain ⟨⟨rfl, rfl, rfl⟩, rfl⟩ : ((2 : Int) = a ∧ (m.toNat : Int) = b ∧ [] = x) ∧ 2 = n := by simpa using h'
          refine ⟨?_, by simp, by decide, by simp⟩
          unfold encV okV
          rw [if_pos (by simp; omega), if_neg (by decide), if_pos rfl, u8_of, cEq 2 k2]
          rfl
        · have e : (if m.toNat ≤ 1 then some (((2 : Int), (m.toNat : Int), ([] : List UInt8)), 2) else none) = some ((a, b, x), n) := h
          rw [if_neg k] at e
          cases e
    rw [if_neg k2] at h
    by_cases k3 : c.toNat = 3
    · rw [if_pos k3] at h
      cases t with
      | nil => cases h
      | cons m u =>
        have e : (if m.toNat ≤ 100 ∧ m.toNat ≤ u.length then some (((3 : Int), (0 : Int), u.take m.toNat), 2 + m.toNat) else none) = some ((a, b, x), n) := h
        by_cases k : m.toNat ≤ 100 ∧ m.toNat ≤ u.length
        · rw [if_pos k] at e
          obtain ⟨⟨rfl, rfl, rfl⟩, rfl⟩ : ((3 : Int) = a ∧ (0 : Int) = b ∧ u.take m.toNat = x) ∧ 2 + m.toNat = n := by simpa using e
          have hl : (u.take m.toNat).length = m.toNat := by rw [List.length_take]; omega
          refine ⟨?_, by simp; omega, by omega, by omega⟩
          unfold encV okV
          rw [if_pos (by rw [hl]; simp; omega), if_neg (by decide), if_neg (by decide), if_pos rfl, hl, u8_of, cEq 3 k3, show 2 + m.toNat = m.toNat + 1 + 1 by omega]
          rfl
        · rw [if_neg k] at e
          cases e
    rw [if_neg k3] at h
    by_cases k0 : c.toNat = 0
    · rw [if_pos k0] at h
      obtain ⟨⟨rfl, rfl, rfl⟩, rfl⟩ : (0 = a ∧ 0 = b ∧ [] = x) ∧ 1 = n := by simpa using h
      refine ⟨?_, by simp, by decide, by simp⟩
      rw [cEq 0 k0]
      rfl
    · rw [if_neg k0] at h
      cases h
/-! #### FnValue -/
def okA (a b : Int) (s : ByteArray) : Prop := -9223372036854775808 ≤ a ∧ a ≤ 9223372036854775807 ∧ -9223372036854775808 ≤ b ∧ b ≤ 9223372036854775807 ∧ s.size ≤ 100
theorem drawCmp_is (l : List Int) (hl : l.length ≤ 1048576) : ∃ a b s a' b' s', Ev (fun k => spec_DrawCompareValue.f k l) (a, b, s, a', b', s') ∧ okA a b s ∧ okA a' b' s' := by
  obtain ⟨h, e⟩ := new_is l hl
  obtain ⟨a, b, s, i1, h1, e1, o1, o2, o3, o4, o5, g0, g1⟩ := any_is l 0 h (by decide) hl (by decide)
  obtain ⟨x, i2, h2, e2, g2, g3⟩ := once_is l i1 h1 4 g0 hl g1
  cases x with
  | true => exact ⟨_, _, _, _, _, _, Ev.bind e (Ev.bind e1 (ev_bind0 e2 (ev_if_pos rfl (ev_some fun _ => rfl)))), ⟨o1, o2, o3, o4, o5⟩, ⟨o1, o2, o3, o4, o5⟩⟩
  | false =>
    obtain ⟨a', b', s', i3, h3, e3, p1, p2, p3, p4, p5, g4, g5⟩ := any_is l i2 h2 g2 hl g3
    exact ⟨_, _, _, _, _, _, Ev.bind e (Ev.bind e1 (ev_bind0 e2 (ev_if_neg (by simp) (Ev.bind e3 (ev_some fun _ => rfl))))), ⟨o1, o2, o3, o4, o5⟩, ⟨p1, p2, p3, p4, p5⟩⟩
theorem drawPut_is (l : List Int) (hl : l.length ≤ 1048576) : ∃ a b s, Ev (fun k => spec_DrawPutValue.f k l) (a, b, s) ∧ okA a b s := by
  obtain ⟨h, e⟩ := new_is l hl
  obtain ⟨a, b, s, i1, h1, e1, o1, o2, o3, o4, o5, g0, g1⟩ := any_is l 0 h (by decide) hl (by decide)
  exact ⟨_, _, _, Ev.bind e (Ev.bind e1 (ev_some fun _ => rfl)), o1, o2, o3, o4, o5⟩
theorem encV_len (a b : Int) (s : List UInt8) : (encV a b s).length ≤ s.length + 9 := by
  unfold encV
  by_cases ok : okV a b s = true
  · rw [if_pos ok]
    by_cases h1 : a = 1
    · rw [if_pos h1, List.length_cons, be8_len]
      omega
    rw [if_neg h1]
    by_cases h2 : a = 2
    · rw [if_pos h2]
      simp
    rw [if_neg h2]
    by_cases h3 : a = 3
    · rw [if_pos h3]
      simp
    · rw [if_neg h3]
      simp
  · rw [if_neg ok]
    simp
theorem drawGet_is (l : List Int) (hl : l.length ≤ 1048576) : ∃ u i, Ev (fun k => spec_DrawGetValue.f k l) (u, i) ∧ u.size ≤ 200 := by
  obtain ⟨h, e⟩ := new_is l hl
  obtain ⟨a, b, s, i1, h1, e1, o1, o2, o3, o4, o5, g0, g1⟩ := any_is l 0 h (by decide) hl (by decide)
  have ep := specPutValue_is a b s (by omega)
  have hz := size_data s
  have hn := encV_len a b s.data.toList
  generalize encV a b s.data.toList = E at *
  have q : ((⟨#[120]⟩ : ByteArray) ++ mkB E) ++ (⟨#[121, 121]⟩ : ByteArray) = mkB ([120] ++ E ++ [121, 121]) := by
    rw [show (⟨#[120]⟩ : ByteArray) = mkB [120] from rfl, mkB_append]
    exact mkB_append _ [121, 121]
  have q1 : ((⟨#[120]⟩ : ByteArray) ++ mkB E).size + 2 ≤ 9223372036854775807 := by
    rw [show (⟨#[120]⟩ : ByteArray) = mkB [120] from rfl, mkB_append, mkB_size, List.length_append]
    simp
    omega
  have q2 : 1 + (mkB E).size ≤ 9223372036854775807 := by rw [mkB_size]; omega
  have qs : (mkB ([120] ++ E ++ [121, 121])).size ≤ 200 := by
    rw [mkB_size]
    simp
    omega
  obtain ⟨x, i2, h2, e2, x0, x1, g2, g3⟩ := below_is l i1 h1 6 g0 hl g1
  by_cases c0 : x = 0
  · obtain ⟨y, i3, h3, e3, y0, y1, g4, g5⟩ := below_is l i2 h2 (wrap64 ((1 + ((mkB E).size : Int) + 2) + 1)) g2 hl g3
    have y2 : y ≤ (1 + ((mkB E).size : Int) + 2) := by
      have hm := mkB_size E
      rw [wrap_id (by omega) (by omega)] at y1
      have := y1 (by omega)
      omega
    refine ⟨_, _, Ev.bind e (Ev.bind e1 (Ev.bind ep (ev_if_pos q2 (ev_if_pos q1 (ev_bind0 e2 (ev_if_pos c0 (ev_bind0 e3 (ev_if_pos y0 (ev_if_pos y2 (ev_some fun _ => rfl)))))))))), ?_⟩
    rw [q, ByteArray.size_extract]
    omega
  by_cases c1 : x = 1
  · obtain ⟨y, i3, h3, e3, y0, g4, g5⟩ := pickInt_is l i2 h2 [0, 2, (-1), 9] (by decide) g2 hl g3
    exact ⟨_, _, Ev.bind e (Ev.bind e1 (Ev.bind ep (ev_if_pos q2 (ev_if_pos q1 (ev_bind0 e2 (ev_if_neg c0 (ev_if_pos c1 (ev_bind0 e3 (ev_some fun _ => rfl))))))))), by rw [q]; exact qs⟩
  · exact ⟨_, _, Ev.bind e (Ev.bind e1 (Ev.bind ep (ev_if_pos q2 (ev_if_pos q1 (ev_bind0 e2 (ev_if_neg c0 (ev_if_neg c1 (ev_some fun _ => rfl)))))))), by rw [q]; exact qs⟩
theorem drawName_is (l : List Int) (hl : l.length ≤ 1048576) : ∃ n, Ev (fun k => spec_DrawNameOk.f k l) n ∧ n.size ≤ 20 := by
  obtain ⟨h, e⟩ := new_is l hl
  obtain ⟨y, i3, h3, e3, y0, g4, g5⟩ := pick_is l 0 h [(⟨#[97]⟩ : ByteArray), (⟨#[116, 49]⟩ : ByteArray), (⟨#[49, 97]⟩ : ByteArray), (⟨#[]⟩ : ByteArray), (⟨#[65]⟩ : ByteArray), (⟨#[97, 98, 99, 100, 101, 102, 103, 104, 105, 106]⟩ : ByteArray), (⟨#[97, 98, 99, 100, 101, 102, 103, 104, 105, 106, 107]⟩ : ByteArray), (⟨#[97, 95, 98]⟩ : ByteArray)] (by decide) (by decide) hl (by decide)
  refine ⟨y, Ev.bind e (ev_bind0 e3 (ev_some fun _ => rfl)), ?_⟩
  simp only [List.mem_cons, List.not_mem_nil, or_false] at y0
  rcases y0 with rfl | rfl | rfl | rfl | rfl | rfl | rfl | rfl <;> decide
theorem drawDec_is (l : List Int) (hl : l.length ≤ 1048576) : ∃ d, Ev (fun k => spec_DrawDecText.f k l) d ∧ -9223372036854775808 ≤ d ∧ d ≤ 9223372036854775807 := by
  obtain ⟨h, e⟩ := new_is l hl
  obtain ⟨x, i2, h2, e2, x0, x1, g2, g3⟩ := below_is l 0 h 100000 (by decide) hl (by decide)
  have x2 := x1 (by decide)
  obtain ⟨y, i3, h3, e3, y0, g4, g5⟩ := pickInt_is l i2 h2 [0, (-1), 10, 9223372036854775807, (-9223372036854775808), x] (by simp) g2 hl g3
  refine ⟨y, Ev.bind e (ev_bind0 e2 (ev_bind0 e3 (ev_some fun _ => rfl))), ?_⟩
  simp only [List.mem_cons, List.not_mem_nil, or_false] at y0
  omega
theorem cmpE (a b : Int) (s : ByteArray) (a' b' : Int) (s' : ByteArray) : Ev (fun k => impl_CompareValue.f k a b s a' b' s') (cmpV a b s a' b' s') := ⟨4, fun k hk => by
  obtain ⟨j, rfl⟩ : ∃ j, k = j + 4 := ⟨k - 4, by omega⟩
  exact compareValue_is j a b s a' b' s'⟩
theorem encV_nil {a b : Int} {s : List UInt8} (h : okV a b s = true) : encV a b s ≠ [] := by
  unfold encV
  rw [if_pos h]
  by_cases h1 : a = 1
  · rw [if_pos h1]; simp
  rw [if_neg h1]
  by_cases h2 : a = 2
  · rw [if_pos h2]; simp
  rw [if_neg h2]
  by_cases h3 : a = 3
  · rw [if_pos h3]; simp
  · rw [if_neg h3]; simp
theorem j1_is (a b : Int) (s : ByteArray) (o : okA a b s) : Ev (fun k => laws_FnValue.j1 k (mkB (encV a b s.data.toList)) false a b s) true := by
  obtain ⟨o1, o2, o3, o4, o5⟩ := o
  have hz := size_data s
  have hn := encV_len a b s.data.toList
  have hj := fun (q : Bool) (k : Nat) => (show laws_FnValue.j1 (k + 1) (mkB (encV a b s.data.toList)) q a b s = ite (q = true) none _ from rfl)
  refine Ev.step (fun k => (hj false k).trans (if_neg Bool.false_ne_true)) ?_
  cases ok : okV a b s.data.toList with
  | true =>
    have hne := encV_nil ok
    have hg := getV_enc a b s.data.toList [98] ok o3 o4
    generalize encV a b s.data.toList = E at *
    refine ev_if_neg (by rw [toList_mkB]; exact hne) (ev_if_pos (by rw [mkB_size]; omega) ?_)
    have q : ((⟨#[97]⟩ : ByteArray) ++ mkB E) ++ (⟨#[98]⟩ : ByteArray) = mkB ([97] ++ E ++ [98]) := by
      rw [show (⟨#[97]⟩ : ByteArray) = mkB [97] from rfl, mkB_append]
      exact mkB_append _ [98]
    have q1 : ((⟨#[97]⟩ : ByteArray) ++ mkB E).size + 1 ≤ 9223372036854775807 := by
      rw [show (⟨#[97]⟩ : ByteArray) = mkB [97] from rfl, mkB_append, mkB_size, List.length_append]
      simp
      omega
    have ql : ([97] ++ E ++ [98]).length = E.length + 2 := by simp
    have hat : getAt (mkB ([97] ++ E ++ [98])) 1 = (a, b, mkB s.data.toList, ((1 + E.length : Nat) : Int)) := by
      unfold getAt
      rw [if_pos ⟨by decide, by rw [mkB_size, ql]; omega⟩, mkB_data]
      show packV 1 (getV (E ++ [98])) = _
      rw [hg]
      rfl
    refine ev_if_pos q1 ?_
    rw [q]
    refine ev_bind0 ((implGetValue_is _ 1 (by rw [mkB_size, ql]; omega)).trans (congrArg some hat)) (ev_if_pos (by simp [mkB_of]) (ev_some fun _ => ?_))
    rw [mkB_size]
    congr 1
    exact beq_iff_eq.2 (show ((1 + E.length : Nat) : Int) = 1 + (E.length : Int) by omega)
  | false =>
    have he : encV a b s.data.toList = [] := by
      unfold encV
      rw [if_neg (by rw [ok]; simp)]
    rw [he]
    exact ev_if_pos (by rw [toList_mkB]) (ev_bind0 ((specValueOk_is a b s).trans (by rw [ok])) (ev_some fun _ => rfl))
theorem j0_is (a b : Int) (s : ByteArray) (a' b' : Int) (s' : ByteArray) (c d : Int) (t : ByteArray) (u : ByteArray) (i : Int) (hu : u.size ≤ 200) (o : okA c d t) :
    Ev (fun k => laws_FnValue.j0 k (cmpV a b s a' b' s') (mkB (encV c d t.data.toList)) u i (getAt u i).2.2.2 false a b s a' b' s' c d t (getAt u i).1 (getAt u i).2.1 (getAt u i).2.2.1) true := by
  have tail : Ev (fun k => if (getAt u i).2.2.2 > 0 then ((impl_PutValue.f k (getAt u i).1 (getAt u i).2.1 (getAt u i).2.2.1).bind fun t397 => (if 0 ≤ i then (if i ≤ (getAt u i).2.2.2 then (if (getAt u i).2.2.2 ≤ (u.size : Int) then (laws_FnValue.j1 k (mkB (encV c d t.data.toList)) (t397.toList != (u.extract (i : Int).toNat ((getAt u i).2.2.2 : Int).toNat).toList) c d t) else (none)) else (none)) else (none))) else (laws_FnValue.j1 k (mkB (encV c d t.data.toList)) false c d t)) true := by
    have j1 := j1_is c d t o
    by_cases r : 0 ≤ i ∧ i ≤ (u.size : Int)
    case neg =>
      have e : getAt u i = (0, 0, mkB [], -1) := by unfold getAt; rw [if_neg r]
      rw [e]
      exact ev_if_neg (by decide) j1
    cases hv : getV (u.data.toList.drop i.toNat) with
    | none =>
      have e : getAt u i = (0, 0, mkB [], -1) := by unfold getAt; rw [if_pos r, hv]; rfl
      rw [e]
      exact ev_if_neg (by decide) j1
    | some p =>
      obtain ⟨⟨x0, x1, x2⟩, n⟩ := p
      have e : getAt u i = (x0, x1, mkB x2, ((i.toNat + n : Nat) : Int)) := by unfold getAt; rw [if_pos r, hv]; rfl
      obtain ⟨k1, k2, k3, k4⟩ := getV_can _ _ _ _ _ hv
      have hz := size_data u
      rw [List.length_drop] at k2
      rw [e]
      refine ev_if_pos (by show ((i.toNat + n : Nat) : Int) > 0; omega) (Ev.bind (implPutValue_is x0 x1 (mkB x2) (by rw [mkB_size]; omega)) (ev_if_pos r.1 (ev_if_pos (by show i ≤ ((i.toNat + n : Nat) : Int); omega) (ev_if_pos (by show ((i.toNat + n : Nat) : Int) ≤ _; omega) ?_))))
      have hx : (mkB (encV x0 x1 (mkB x2).data.toList)).toList = (u.extract i.toNat (((i.toNat + n : Nat) : Int)).toNat).toList := by
        rw [toList_mkB, mkB_data, k1, extract_mk, toList_mkB, Int.toNat_natCast, show i.toNat + n - i.toNat = n by omega]
      show Ev (fun k => laws_FnValue.j1 k (mkB (encV c d t.data.toList)) ((mkB (encV x0 x1 (mkB x2).data.toList)).toList != (u.extract i.toNat (((i.toNat + n : Nat) : Int)).toNat).toList) c d t) true
      rw [hx, bne_self_eq_false]
      exact j1
  have hj := fun (q : Bool) (k : Nat) => (show laws_FnValue.j0 (k + 1) (cmpV a b s a' b' s') (mkB (encV c d t.data.toList)) u i (getAt u i).2.2.2 q a b s a' b' s' c d t (getAt u i).1 (getAt u i).2.1 (getAt u i).2.2.1 = ite (q = true) none _ from rfl)
  refine Ev.step (fun k => (hj false k).trans (if_neg Bool.false_ne_true)) ?_
  by_cases h1 : cmpV a b s a' b' s' ≤ 0
  · refine ev_if_pos h1 (Ev.bind (cmpE a' b' s' c d t) ?_)
    by_cases h2 : cmpV a' b' s' c d t ≤ 0
    · exact ev_if_pos h2 (Ev.bind (cmpE a b s c d t) (ev_if_neg (cmpV_le_trans h1 h2) tail))
    · exact ev_if_neg h2 tail
  · exact ev_if_neg h1 tail
end Go.Proofs.YthgdmdabdlgliaaDoor.PFnValue
