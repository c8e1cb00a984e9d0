/- Plain lemmas on what the functions of the law FnBagBytes compute: numbers and lists alone. -/
import Derived.Test.YtoajedijckkjjaaGreatDoorPFnBagBytesx0
import Derived.Test.YtoajedijckkjjaaGreatDoorPFnBagBytesx1
import Derived.Test.YtoajedijckkjjaaGreatDoorPFnBagBytesx2
import Derived.Test.YtoajedijckkjjaaGreatDoorPFnBagBytesx3
import Derived.Test.YtoajedijckkjjaaGreatDoorPFnBagBytesx4
import Derived.Test.YtoajedijckkjjaaGreatDoorPFnBagBytesx5
import Derived.Test.YtoajedijckkjjaaGreatDoorPFnBagBytesx6
import Derived.Test.YtoajedijckkjjaaGreatDoorPFnBagBytesx7
import Derived.Test.YtoajedijckkjjaaGreatDoorOpen
import Derived.Test.YtoajedijckkjjaaGreatDoorZFnBagBytes
namespace Go.Proofs.YtoajedijckkjjaaGreatDoor.PFnBagBytes
open Go.RowKit Go.Proofs.YtoajedijckkjjaaGreatDoorW.PrintWords Go.Proofs.YtoajedijckkjjaaGreatDoorW.PrintLast Go.Proofs.YtoajedijckkjjaaGreatDoorW.PrintMore Go.Proofs.YtoajedijckkjjaaGreatDoorOpen Go.Proofs.YtoajedijckkjjaaGreatDoor.ZFnBagBytes
set_option linter.unusedVariables false
set_option linter.unusedSimpArgs false
theorem cmpBytes_is (l m : List UInt8) : Go.Lib.compareBytes l m = if Op.bytesLess l m = true then -1 else if (Op.bytesLess l m || l == m) = true then 0 else 1 := by
 induction l generalizing m with
 | nil => cases m <;> simp [Go.Lib.compareBytes, Op.bytesLess]
 | cons a l ih =>
  cases m with
  | nil => simp [Go.Lib.compareBytes, Op.bytesLess]
  | cons b m =>
   simp only [Go.Lib.compareBytes, Op.bytesLess]
   by_cases h : a < b
   ·simp [h]
   ·by_cases h' : b < a
    ·have hne : ¬ a = b := by rintro rfl; exact absurd h' h
     simp [h, h', hne]
    ·have e : a = b := by
      apply UInt8.toNat_inj.1
      have h1 : ¬ a.toNat < b.toNat := h
      have h2 : ¬ b.toNat < a.toNat := h'
      omega
     subst e
     simp only [h, if_false, ih]
     simp
def cmpI (a b : Int) : Int := if a < b then -1 else if b < a then 1 else 0
theorem compare_int_is (a b : Int) : cmp_Compare_int.f a b = some (cmpI a b) := by
 unfold cmp_Compare_int.f cmp_isNaN_int.f cmpI
 simp only [Option.bind_some, bne_self_eq_false, Bool.false_eq_true, if_false, gt_iff_lt]
 by_cases h : a < b
 ·simp [h]
 ·by_cases h' : b < a <;> simp [h, h']
theorem or_three (k : Nat) (a b c : Int) : cmp_Or_int.f (k + 4) [a, b, c] = some (if a = 0 then (if b = 0 then c else b) else a) := by
 have w0 : wrap64 (0 + 1) = 1 := by unfold wrap64; omega
 have w1 : wrap64 (1 + 1) = 2 := by unfold wrap64; omega
 have w2 : wrap64 (2 + 1) = 3 := by unfold wrap64; omega
 unfold cmp_Or_int.f
 simp only [cmp_Or_int.l0, List.length_cons, List.length_nil, w0, w1, w2, rd]
 by_cases ha : a = 0
 ·by_cases hb : b = 0
  ·by_cases hc : c = 0
   ·simp [ha, hb, hc]
   ·simp [ha, hb, hc]
  ·simp [ha, hb]
 ·simp [ha]
theorem compareValue_is (k : Nat) (a b : Int) (s : ByteArray) (a' b' : Int) (s' : ByteArray) : impl_CompareValue.f (k + 4) a b s a' b' s' = some (cmpV a b s a' b' s') := by
 unfold impl_CompareValue.f strings_Compare.f bytealg_CompareString.f
 simp only [compare_int_is, Option.bind_some, or_three, cmpBytes_is]
 unfold cmpV cmpI
 have hd : ∀ z : ByteArray, z.toList = z.data.toList := fun z => ByteArray.toList_eq z
 rw [hd, hd]
 by_cases h1 : a < a'
 ·simp [h1]
 ·by_cases h2 : a' < a
  ·simp [h1, h2]
  ·by_cases h3 : b < b'
   ·simp [h1, h2, h3]
   ·by_cases h4 : b' < b
    ·simp [h1, h2, h3, h4]
    ·simp [h1, h2, h3, h4]
def okV (a b : Int) (s : List UInt8) : Bool := if a = 0 then (b == 0 && s.isEmpty) else if a = 1 then s.isEmpty else if a = 2 then (decide (0 ≤ b ∧ b ≤ 1) && s.isEmpty) else if a = 3 then (b == 0 && decide (s.length ≤ 100)) else false
theorem specValueOk_is (a b : Int) (s : ByteArray) : spec_ValueOk.f a b s = some (okV a b s.data.toList) := by
 unfold spec_ValueOk.f okV spec_l01In.f
 have he : (s.toList == ([] : List UInt8)) = s.data.toList.isEmpty := by rw [toList_data]; cases s.data.toList <;> rfl
 rw [he, size_data]
 by_cases h0 : a = 0
 ·by_cases hb : b = 0 <;> simp [h0, hb]
 ·by_cases h1 : a = 1
  ·simp [h1]
  ·by_cases h2 : a = 2
   ·by_cases hb : 0 ≤ b
    ·by_cases hb' : b ≤ 1 <;> simp [h2, hb, hb']
    ·simp [h2, hb]
   ·by_cases h3 : a = 3
    ·by_cases hb : b = 0
     ·simp [h3, hb]
      omega
     ·simp [h3, hb]
    ·simp [h0, h1, h2, h3]
theorem implValueOk_is (a b : Int) (s : ByteArray) : impl_ValueOk.f a b s = some (okV a b s.data.toList) := specValueOk_is a b s
def be8 (n : Int) : List UInt8 := [u8 (n / 72057594037927936 % 256), u8 (n / 281474976710656 % 256), u8 (n / 1099511627776 % 256), u8 (n / 4294967296 % 256), u8 (n / 16777216 % 256), u8 (n / 65536 % 256), u8 (n / 256 % 256), u8 (n % 256)]
def encV (a b : Int) (s : List UInt8) : List UInt8 := if okV a b s = true then (if a = 1 then 1 :: be8 b else if a = 2 then [2, u8 b] else if a = 3 then 3 :: u8 (s.length : Int) :: s else [0]) else []
theorem specPutLoop_is (b : Int) (s : ByteArray) (hs : s.size ≤ 1048576) (a : Int) (ys : List Int) (hy : ys.length ≤ 10) : Ev (fun k => spec_PutValue.l0 k ys (IntKind.u64.wrap b) 72057594037927936 0 a b s) (mkB (ys.map u8 ++ be8 b) ++ s) := by
 have hu : IntKind.u64.wrap b = b % 18446744073709551616 := by simp [IntKind.wrap, IntKind.bits, IntKind.signed]
 rw [hu]
 obtain ⟨u, hu⟩ : ∃ u, u = b % 18446744073709551616 := ⟨_, rfl⟩
 rw [← hu]
 have hu0 : 0 ≤ u := by omega
 have hu1 : u < 18446744073709551616 := by omega
 have step : ∀ (zs : List Int) (w w' : Int) (i : Nat) (r : ByteArray), zs.length ≤ 20 → i < 8 → 0 < w → w < 18446744073709551616 → w' = w / 256 → Ev (fun k => spec_PutValue.l0 k (zs ++ [u / w % 256]) u w' ((i + 1 : Nat) : Int) a b s) r → Ev (fun k => spec_PutValue.l0 k zs u w (i : Int) a b s) r := by
  intro zs w w' i r hz hi hw hw2 hw' h
  refine Ev.step (fun k => rfl) (ev_if_pos (by omega) (ev_if_neg (by omega) (ev_if_pos (by omega) ?_)))
  have e1 : IntKind.u64.wrap (Int.tdiv u w) = u / w := by
   rw [Int.tdiv_eq_ediv_of_nonneg hu0]
   have h1 : 0 ≤ u / w := Int.ediv_nonneg hu0 (by omega)
   have h2 : u / w ≤ u := Int.ediv_le_self _ hu0
   simp only [IntKind.wrap, IntKind.bits, IntKind.signed]
   simp
   omega
  have e2 : IntKind.u64.wrap (Int.tdiv w 256) = w' := by
   rw [Int.tdiv_eq_ediv_of_nonneg (by omega), hw']
   simp only [IntKind.wrap, IntKind.bits, IntKind.signed]
   simp
   omega
  have e3 : Int.tmod (u / w) 256 % 256 = u / w % 256 := by
   rw [Int.tmod_eq_emod_of_nonneg (Int.ediv_nonneg hu0 (by omega))]
   omega
  have e4 : wrap64 ((i : Int) + 1) = ((i + 1 : Nat) : Int) := wrap_succ hi (by omega)
  rw [e1, e2, e3, e4]
  exact h
 refine step _ _ 281474976710656 0 _ (by omega) (by omega) (by omega) (by omega) (by omega) ?_
 refine step _ _ 1099511627776 1 _ (by simp; omega) (by omega) (by omega) (by omega) (by omega) ?_
 refine step _ _ 4294967296 2 _ (by simp; omega) (by omega) (by omega) (by omega) (by omega) ?_
 refine step _ _ 16777216 3 _ (by simp; omega) (by omega) (by omega) (by omega) (by omega) ?_
 refine step _ _ 65536 4 _ (by simp; omega) (by omega) (by omega) (by omega) (by omega) ?_
 refine step _ _ 256 5 _ (by simp; omega) (by omega) (by omega) (by omega) (by omega) ?_
 refine step _ _ 1 6 _ (by simp; omega) (by omega) (by omega) (by omega) (by omega) ?_
 refine step _ _ 0 7 _ (by simp; omega) (by omega) (by omega) (by omega) (by omega) ?_
 refine Ev.step (fun k => rfl) (ev_if_neg (by omega) (ev_if_pos ?_ (ev_conv (ev_some fun _ => rfl) ?_)))
 ·rw [strOfNums_size]
  simp
  omega
 ·rw [strOfNums_mk]
  congr 2
  simp only [List.map_append, List.map_cons, List.map_nil, List.append_assoc, List.cons_append, List.nil_append, be8]
  congr 1
  have g : ∀ x y : Int, x = y → u8 x = u8 y := fun x y h => by rw [h]
  simp only [List.cons.injEq, and_true]
  refine ⟨g _ _ (by omega), g _ _ (by omega), g _ _ (by omega), g _ _ (by omega), g _ _ (by omega), g _ _ (by omega), g _ _ (by omega), g _ _ (by omega)⟩
theorem specPutValue_is (a b : Int) (s : ByteArray) (hs : s.size ≤ 1048576) : Ev (fun k => spec_PutValue.f k a b s) (mkB (encV a b s.data.toList)) := by
 refine Ev.congr (fun k => rfl) (ev_bind0 (specValueOk_is a b s) ?_)
 unfold encV
 cases hk : okV a b s.data.toList with
 | false => exact ev_if_neg (by simp) (ev_conv (ev_some fun _ => rfl) rfl)
 | true =>
  refine ev_if_pos rfl (ev_bind0 rfl ?_)
  simp only [if_true]
  by_cases h1 : a = 1
  ·subst h1
   have hs0 : s.data.toList = [] := by simpa [okV] using hk
   refine ev_if_pos rfl (ev_conv (specPutLoop_is b s hs 1 _ (by simp)) ?_)
   rw [← mkB_of s, hs0, mkB_append]
   rfl
  ·refine ev_if_neg h1 ?_
   rw [if_neg h1]
   by_cases h2 : a = 2
   ·subst h2
    have hs0 : s.data.toList = [] := by have := hk; simp [okV] at this; simpa using this.2
    have hb : 0 ≤ b ∧ b ≤ 1 := by have := hk; simp [okV] at this; exact this.1
    refine ev_if_pos rfl (ev_if_pos (by simp) (ev_bind0 rfl (ev_if_pos (by rw [strOfNums_size]; simp; omega) (ev_conv (ev_some fun _ => rfl) ?_))))
    rw [if_pos rfl, strOfNums_mk, ← mkB_of s, hs0, mkB_append]
    have e : b % 256 = b := by omega
    rw [e]
    rfl
   ·refine ev_if_neg h2 ?_
    rw [if_neg h2]
    by_cases h3 : a = 3
    ·subst h3
     have hl : s.data.toList.length ≤ 100 := by have := hk; simp [okV] at this; simpa using this.2
     refine ev_if_pos rfl (ev_if_pos (by simp) (ev_bind0 rfl (ev_if_pos (by rw [strOfNums_size]; simp; omega) (ev_conv (ev_some fun _ => rfl) ?_))))
     rw [if_pos rfl, strOfNums_mk]
     have e : ((s.size : Int)) % 256 = (s.data.toList.length : Int) := by rw [size_data]; omega
     rw [e]
     conv => lhs; rw [← mkB_of s]
     rw [mkB_append]
     rfl
    ·refine ev_if_neg h3 (ev_if_pos (by rw [strOfNums_size]; simp; omega) (ev_conv (ev_some fun _ => rfl) ?_))
     rw [if_neg h3]
     have h0 : a = 0 := by
      by_cases h0 : a = 0
      ·exact h0
      ·simp [okV, h0, h1, h2, h3] at hk
     have hs0 : s.data.toList = [] := by have := hk; simp [okV, h0] at this; simpa using this.2
     rw [strOfNums_mk, ← mkB_of s, hs0, mkB_append, h0]
     rfl
theorem big_round (n m : Int) (xs : List Int) (hm : m = (xs.length : Int)) (hl : xs.length ≤ 8) (i : Nat) (hi : i < xs.length) {r : ByteArray} (h : Ev (fun k => impl_big.l0 k n m (xs.set (xs.length - 1 - i) ((n / 2 ^ (8 * i)) % 256)) (xs.length : Int) ((i + 1 : Nat) : Int)) r) : Ev (fun k => impl_big.l0 k n m xs (xs.length : Int) (i : Int)) r := by
 have e1 : wrap64 (8 * (i : Int)) = ((8 * i : Nat) : Int) := by rw [wrap_id (by omega) (by omega)]; omega
 have e2 : wrap64 (wrap64 (m - 1) - (i : Int)) = ((xs.length - 1 - i : Nat) : Int) := by rw [wrap_id (x := m - 1) (by omega) (by omega), wrap_id (by omega) (by omega)]; omega
 have e3 : shr .i64 n ((8 * i : Nat) : Int) = n / 2 ^ (8 * i) := by unfold shr; rw [Int.toNat_natCast, Nat.min_eq_left (by show 8 * i ≤ 64; omega)]
 have e4 : wrap64 ((i : Int) + 1) = ((i + 1 : Nat) : Int) := wrap_succ hi (by omega)
 refine Ev.step (fun k => rfl) (ev_if_pos (by omega) ?_)
 rw [e1, e2]
 refine ev_if_pos (by omega) (ev_if_pos (by omega) (ev_if_pos (by omega) ?_))
 rw [e3, e4, Int.toNat_natCast]
 exact h
theorem big_end (n m : Int) (xs : List Int) : Ev (fun k => impl_big.l0 k n m xs (xs.length : Int) (xs.length : Int)) (strOfNums xs) :=
 Ev.step (fun k => rfl) (ev_if_neg (by omega) (ev_some fun _ => rfl))
theorem big1_is (n : Int) : Ev (fun k => impl_big.f k n 1) (mkB [u8 (n % 256)]) := by
 have c : Ev (fun k => impl_big.l0 k n 1 [0] (([0] : List Int).length : Int) ((0 : Nat) : Int)) (mkB [u8 (n % 256)]) := by
  refine big_round n 1 [0] (by simp) (by simp) 0 (by simp) ?_
  have e := big_end n 1 (([0] : List Int).set (([0] : List Int).length - 1 - 0) ((n / 2 ^ (8 * 0)) % 256))
  rw [strOfNums_mk] at e
  simpa using e
 refine Ev.congr (fun k => ?_) c
 unfold impl_big.f
 rw [if_pos (by omega), if_pos (by omega)]
 rfl
theorem big8_is (n : Int) : Ev (fun k => impl_big.f k n 8) (mkB [u8 (n / 72057594037927936 % 256), u8 (n / 281474976710656 % 256), u8 (n / 1099511627776 % 256), u8 (n / 4294967296 % 256), u8 (n / 16777216 % 256), u8 (n / 65536 % 256), u8 (n / 256 % 256), u8 (n % 256)]) := by
 have c : ∀ l : List Int, l = [0, 0, 0, 0, 0, 0, 0, 0] → Ev (fun k => impl_big.l0 k n 8 l (l.length : Int) ((0 : Nat) : Int)) (mkB [u8 (n / 72057594037927936 % 256), u8 (n / 281474976710656 % 256), u8 (n / 1099511627776 % 256), u8 (n / 4294967296 % 256), u8 (n / 16777216 % 256), u8 (n / 65536 % 256), u8 (n / 256 % 256), u8 (n % 256)]) := by
  have rd : ∀ (xs ys : List Int) (i j : Nat) (r : ByteArray), xs.length = 8 → i < 8 → j = i + 1 → ys = xs.set (7 - i) ((n / 2 ^ (8 * i)) % 256) → Ev (fun k => impl_big.l0 k n 8 ys (ys.length : Int) (j : Int)) r → Ev (fun k => impl_big.l0 k n 8 xs (xs.length : Int) (i : Int)) r := by
   intro xs ys i j r hl hi hj hy h
   subst hj hy
   refine big_round n 8 xs (by rw [hl]; rfl) (by omega) i (by omega) ?_
   rw [List.length_set] at h
   rw [hl] at h ⊢
   exact h
  intro l hl
  subst hl
  refine rd _ [0, 0, 0, 0, 0, 0, 0, n % 256] 0 1 _ rfl (by omega) rfl (by simp) ?_
  refine rd _ [0, 0, 0, 0, 0, 0, n / 256 % 256, n % 256] 1 2 _ rfl (by omega) rfl (by simp) ?_
  refine rd _ [0, 0, 0, 0, 0, n / 65536 % 256, n / 256 % 256, n % 256] 2 3 _ rfl (by omega) rfl (by simp) ?_
  refine rd _ [0, 0, 0, 0, n / 16777216 % 256, n / 65536 % 256, n / 256 % 256, n % 256] 3 4 _ rfl (by omega) rfl (by simp) ?_
  refine rd _ [0, 0, 0, n / 4294967296 % 256, n / 16777216 % 256, n / 65536 % 256, n / 256 % 256, n % 256] 4 5 _ rfl (by omega) rfl (by simp) ?_
  refine rd _ [0, 0, n / 1099511627776 % 256, n / 4294967296 % 256, n / 16777216 % 256, n / 65536 % 256, n / 256 % 256, n % 256] 5 6 _ rfl (by omega) rfl (by simp) ?_
  refine rd _ [0, n / 281474976710656 % 256, n / 1099511627776 % 256, n / 4294967296 % 256, n / 16777216 % 256, n / 65536 % 256, n / 256 % 256, n % 256] 6 7 _ rfl (by omega) rfl (by simp) ?_
  refine rd _ [n / 72057594037927936 % 256, n / 281474976710656 % 256, n / 1099511627776 % 256, n / 4294967296 % 256, n / 16777216 % 256, n / 65536 % 256, n / 256 % 256, n % 256] 7 8 _ rfl (by omega) rfl (by simp) ?_
  exact big_end n 8 _
 refine Ev.congr (fun k => ?_) (c (List.replicate 8 0) rfl)
 unfold impl_big.f
 rw [if_pos (by omega), if_pos (by omega)]
 rfl
theorem implPutValue_is (a b : Int) (s : ByteArray) (hs : s.size ≤ 1048576) : Ev (fun k => impl_PutValue.f k a b s) (mkB (encV a b s.data.toList)) := by
 refine Ev.congr (fun k => rfl) (ev_bind0 (implValueOk_is a b s) ?_)
 unfold encV
 cases hk : okV a b s.data.toList with
 | false => exact ev_if_neg (by simp) (ev_conv (ev_some fun _ => rfl) rfl)
 | true =>
  refine ev_if_pos rfl (Ev.bind (big1_is a) ?_)
  simp only [if_true]
  by_cases h1 : a = 1
  ·subst h1
   refine ev_if_pos rfl (Ev.bind (big8_is b) (ev_if_pos (by simp [mkB_size]) (ev_conv (ev_some fun _ => rfl) ?_)))
   rw [mkB_append]
   rfl
  ·refine ev_if_neg h1 ?_
   rw [if_neg h1]
   by_cases h2 : a = 2
   ·subst h2
    have hb : 0 ≤ b ∧ b ≤ 1 := by have := hk; simp [okV] at this; exact this.1
    refine ev_if_pos rfl (Ev.bind (big1_is b) (ev_if_pos (by simp [mkB_size]) (ev_conv (ev_some fun _ => rfl) ?_)))
    have e : b % 256 = b := by omega
    rw [if_pos rfl, mkB_append, e]
    rfl
   ·refine ev_if_neg h2 ?_
    rw [if_neg h2]
    by_cases h3 : a = 3
    ·subst h3
     have hl : s.data.toList.length ≤ 100 := by have := hk; simp [okV] at this; simpa using this.2
     refine ev_if_pos rfl (Ev.bind (big1_is (s.size : Int)) (ev_if_pos (by simp [mkB_size]) (ev_if_pos (by simp [mkB_size, mkB_append]; omega) (ev_conv (ev_some fun _ => rfl) ?_))))
     have e : ((s.size : Int)) % 256 = (s.data.toList.length : Int) := by rw [size_data]; omega
     rw [if_pos rfl, e]
     conv => lhs; rw [← mkB_of s]
     rw [mkB_append, mkB_append]
     rfl
    ·refine ev_if_neg h3 (ev_conv (ev_some fun _ => rfl) ?_)
     have h0 : a = 0 := by
      by_cases h0 : a = 0
      ·exact h0
      ·simp [okV, h0, h1, h2, h3] at hk
     rw [if_neg h3, h0]
     rfl
theorem bigStep_eq (n : Int) (c : UInt8) : bigStep n c = bits .or .i64 (wrap64 (n * 256)) (c.toNat : Int) := rfl
theorem bigFold_snoc (l : List UInt8) (c : UInt8) (ih : l.foldl bigStep 0 = wrap64 (beN l : Int)) : (l ++ [c]).foldl bigStep 0 = wrap64 (beN (l ++ [c]) : Int) := by
 have e : ((beN l * 256 + c.toNat : Nat) : Int) = (beN l : Int) * 256 + (c.toNat : Int) := by omega
 rw [List.foldl_append, ih, beN_snoc, e, List.foldl_cons, List.foldl_nil, bigStep_eq]
 exact be_step _ _ c.toNat_lt
theorem bigFold_nil : ([] : List UInt8).foldl bigStep 0 = wrap64 (beN [] : Int) := by
 rw [beN_nil, List.foldl_nil]
 unfold wrap64
 omega
theorem bigFold_is (l : List UInt8) : l.foldl bigStep 0 = wrap64 (beN l : Int) :=
 snoc_ind (p := fun l => l.foldl bigStep 0 = wrap64 (beN l : Int)) bigFold_nil bigFold_snoc l
theorem bigPre_is (l : List UInt8) : bigPre (mkB l) (mkB l).size = wrap64 (beN l : Int) := by
 unfold bigPre
 rw [mkB_size, mkB_data, List.take_length, bigFold_is]
theorem bigOf_is (l : List UInt8) (hl : l.length ≤ 9223372036854775807) : impl_bigOf.f (mkB l) = some (wrap64 (beN l : Int)) := by
 unfold impl_bigOf.f
 have h : (mkB l).size ≤ 9223372036854775807 := by rw [mkB_size]; exact hl
 rw [if_pos h, bigPre_is]
theorem wrap_zero : wrap64 (beN [] : Int) = 0 := by
 rw [beN_nil]
 unfold wrap64
 omega
theorem bigOf_nil : impl_bigOf.f (mkB []) = some 0 := by
 rw [bigOf_is [] (Nat.zero_le _), wrap_zero]
theorem take_bad (s : ByteArray) (i n : Int) : impl_reader_take.f s i true n = some (mkB [], s, i, true) := by
 unfold impl_reader_take.f
 rw [if_pos rfl]
 rfl
theorem take_short (s : ByteArray) (i n : Nat) (hi : i ≤ s.size) (hs : s.size ≤ 1099511627776) (h : s.size < i + n) (hn : n ≤ 1099511627776) : impl_reader_take.f s i false n = some (mkB [], s, (i : Int), true) := by
 unfold impl_reader_take.f
 rw [if_neg (by simp), wrap_id (x := (s.size : Int) - (i : Int)) (by omega) (by omega), if_pos (by omega)]
 rfl
theorem take_ok (s : ByteArray) (i n : Nat) (hs : s.size ≤ 1099511627776) (h : i + n ≤ s.size) : impl_reader_take.f s i false n = some (mkB ((s.data.toList.drop i).take n), s, ((i + n : Nat) : Int), false) := by
 have e1 : wrap64 ((i : Int) + (n : Int)) = ((i + n : Nat) : Int) := by rw [wrap_id (by omega) (by omega)]; omega
 have e2 : wrap64 (((i + n : Nat) : Int) - (n : Int)) = (i : Int) := by rw [wrap_id (by omega) (by omega)]; omega
 unfold impl_reader_take.f
 rw [if_neg (by simp), wrap_id (x := (s.size : Int) - (i : Int)) (by omega) (by omega), if_neg (by omega)]
 simp only [e1, e2]
 rw [if_pos (by omega), if_pos (by omega), if_pos (by omega), extract_mk, Int.toNat_natCast, Int.toNat_natCast, show i + n - i = n by omega]
theorem size_bad (s : ByteArray) (i n : Int) : impl_reader_size.f s i true n = some (0, s, i, true) := by
 unfold impl_reader_size.f
 rw [take_bad]
 simp only [Option.bind_some]
 rw [bigOf_nil]
 rfl
theorem size_short (s : ByteArray) (i n : Nat) (hi : i ≤ s.size) (hs : s.size ≤ 1099511627776) (h : s.size < i + n) (hn : n ≤ 1099511627776) : impl_reader_size.f s i false n = some (0, s, (i : Int), true) := by
 unfold impl_reader_size.f
 rw [take_short s i n hi hs h hn]
 simp only [Option.bind_some]
 rw [bigOf_nil]
 rfl
theorem size_ok (s : ByteArray) (i n : Nat) (hs : s.size ≤ 1099511627776) (h : i + n ≤ s.size) : impl_reader_size.f s i false n = some (wrap64 (beN ((s.data.toList.drop i).take n) : Int), s, ((i + n : Nat) : Int), false) := by
 unfold impl_reader_size.f
 rw [take_ok s i n hs h]
 simp only [Option.bind_some]
 have hl : ((s.data.toList.drop i).take n).length ≤ n := List.length_take_le _ _
 rw [bigOf_is _ (by omega)]
 rfl
theorem value_bad (s : ByteArray) (i : Int) : impl_reader_value.f s i true = some (0, 0, mkB [], s, i, true) := by
 unfold impl_reader_value.f
 rw [size_bad]
 simp
 rfl
theorem drop_cons_at {s : ByteArray} {i : Nat} {c : UInt8} {t : List UInt8} (h : s.data.toList.drop i = c :: t) : i < s.size ∧ s.data.toList.drop (i + 1) = t ∧ t.length = s.size - i - 1 := by
 have h1 := congrArg List.length h
 rw [List.length_drop, ← size_data, List.length_cons] at h1
 have h2 : s.data.toList.drop (i + 1) = t := by
  have := congrArg (List.drop 1) h
  rwa [List.drop_drop] at this
 exact ⟨by omega, h2, by omega⟩
theorem wrap_byte (c : UInt8) : wrap64 (c.toNat : Int) = (c.toNat : Int) := by have := c.toNat_lt; exact wrap_id (by omega) (by omega)
theorem value_is (s : ByteArray) (i : Nat) (hi : i ≤ s.size) (hs : s.size ≤ 1099511627000) :
  (∃ a b x n, getV (s.data.toList.drop i) = some ((a, b, x), n) ∧ impl_reader_value.f s i false = some (a, b, mkB x, s, ((i + n : Nat) : Int), false) ∧ i + n ≤ s.size) ∨
  (getV (s.data.toList.drop i) = none ∧ ∃ (a b : Int) (x : ByteArray) (j : Nat), impl_reader_value.f s i false = some (a, b, x, s, (j : Int), true) ∧ j ≤ s.size) := by
 cases hd : s.data.toList.drop i with
 | nil =>
  have hl := congrArg List.length hd
  rw [List.length_drop, ← size_data, List.length_nil] at hl
  refine .inr ⟨rfl, 0, 0, mkB [], i, ?_, hi⟩
  unfold impl_reader_value.f
  rw [show (1 : Int) = ((1 : Nat) : Int) from rfl, size_short s i 1 hi (by omega) (by omega) (by omega)]
  simp
  rfl
 | cons c t =>
  obtain ⟨hlt, ht, htl⟩ := drop_cons_at hd
  have hc := c.toNat_lt
  have h1 : impl_reader_size.f s i false 1 = some ((c.toNat : Int), s, ((i + 1 : Nat) : Int), false) := by
   rw [show (1 : Int) = ((1 : Nat) : Int) from rfl, size_ok s i 1 (by omega) (by omega), hd]
   simp only [List.take_succ_cons, List.take_zero, beN_one, wrap_byte]
  unfold impl_reader_value.f getV
  rw [h1]
  simp only [Option.bind_some]
  by_cases c1 : c.toNat = 1
  ·rw [if_pos (show (c.toNat : Int) = 1 by omega), if_pos c1]
   by_cases h8 : 8 ≤ t.length
   ·rw [show (8 : Int) = ((8 : Nat) : Int) from rfl, size_ok s (i + 1) 8 (by omega) (by omega), ht, if_pos h8]
    simp only [Option.bind_some, implValueOk_is]
    refine .inl ⟨_, _, _, _, rfl, ?_, by omega⟩
    have ho : okV (c.toNat : Int) (wrap64 (beN (t.take 8) : Int)) (⟨#[]⟩ : ByteArray).data.toList = true := by simp [okV, c1]
    rw [ho]
    simp [c1]
    exact ⟨rfl, by omega⟩
   ·rw [show (8 : Int) = ((8 : Nat) : Int) from rfl, size_short s (i + 1) 8 (by omega) (by omega) (by omega) (by omega), if_neg h8]
    exact .inr ⟨rfl, (c.toNat : Int), 0, ⟨#[]⟩, i + 1, by simp, by omega⟩
  ·rw [if_neg (show ¬ (c.toNat : Int) = 1 by omega), if_neg c1]
   by_cases c2 : c.toNat = 2
   ·rw [if_pos (show (c.toNat : Int) = 2 by omega), if_pos c2]
    cases t with
    | nil =>
     rw [show (1 : Int) = ((1 : Nat) : Int) from rfl, size_short s (i + 1) 1 (by omega) (by omega) (by simp at htl; omega) (by omega)]
     exact .inr ⟨rfl, (c.toNat : Int), 0, ⟨#[]⟩, i + 1, by simp, by omega⟩
    | cons b u =>
     rw [List.length_cons] at htl
     rw [show (1 : Int) = ((1 : Nat) : Int) from rfl, size_ok s (i + 1) 1 (by omega) (by omega), ht]
     simp only [List.take_succ_cons, List.take_zero, beN_one, wrap_byte, Option.bind_some, implValueOk_is]
     have ho : okV (c.toNat : Int) (b.toNat : Int) (⟨#[]⟩ : ByteArray).data.toList = decide (b.toNat ≤ 1) := by simp [okV, c2]; omega
     rw [ho]
     by_cases hb : b.toNat ≤ 1
     ·rw [if_pos hb]
      exact .inl ⟨_, _, _, _, rfl, by simp [hb, c2]; exact ⟨rfl, by omega⟩, by omega⟩
     ·rw [if_neg hb]
      exact .inr ⟨rfl, (c.toNat : Int), (b.toNat : Int), ⟨#[]⟩, i + 1 + 1, by simp [hb], by omega⟩
   ·rw [if_neg (show ¬ (c.toNat : Int) = 2 by omega), if_neg c2]
    by_cases c3 : c.toNat = 3
    ·rw [if_pos (show (c.toNat : Int) = 3 by omega), if_pos c3]
     cases t with
     | nil =>
      rw [show (1 : Int) = ((1 : Nat) : Int) from rfl, size_short s (i + 1) 1 (by omega) (by omega) (by simp at htl; omega) (by omega)]
      simp only [Option.bind_some, take_bad]
      exact .inr ⟨by first | rfl | trivial, (c.toNat : Int), 0, mkB [], i + 1, by simp, by omega⟩
     | cons m u =>
      rw [List.length_cons] at htl
      have hm := m.toNat_lt
      have hu : s.data.toList.drop (i + 1 + 1) = u := (drop_cons_at ht).2.1
      rw [show (1 : Int) = ((1 : Nat) : Int) from rfl, size_ok s (i + 1) 1 (by omega) (by omega), ht]
      simp only [List.take_succ_cons, List.take_zero, beN_one, wrap_byte, Option.bind_some]
      by_cases hl : m.toNat ≤ u.length
      ·rw [take_ok s (i + 1 + 1) m.toNat (by omega) (by omega), hu]
       simp only [Option.bind_some, implValueOk_is, mkB_data]
       have ho : okV (c.toNat : Int) 0 (u.take m.toNat) = decide (m.toNat ≤ 100) := by simp [okV, c3]; omega
       rw [ho]
       by_cases hb : m.toNat ≤ 100
       ·rw [if_pos ⟨hb, hl⟩]
        exact .inl ⟨_, _, _, _, rfl, by simp [hb, c3]; omega, by omega⟩
       ·rw [if_neg (by omega)]
        exact .inr ⟨rfl, (c.toNat : Int), 0, mkB (u.take m.toNat), i + 1 + 1 + m.toNat, by simp [hb], by omega⟩
      ·rw [take_short s (i + 1 + 1) m.toNat (by omega) (by omega) (by omega) (by omega), if_neg (by omega)]
       simp only [Option.bind_some]
       exact .inr ⟨by first | rfl | trivial, (c.toNat : Int), 0, mkB [], i + 1 + 1, by simp, by omega⟩
    ·rw [if_neg (show ¬ (c.toNat : Int) = 3 by omega), if_neg c3]
     simp only [implValueOk_is, Option.bind_some]
     by_cases c0 : c.toNat = 0
     ·rw [if_pos c0]
      have ho : okV (c.toNat : Int) 0 (⟨#[]⟩ : ByteArray).data.toList = true := by simp [okV, c0]
      rw [ho]
      exact .inl ⟨_, _, _, _, rfl, by simp [c0]; rfl, by omega⟩
     ·rw [if_neg c0]
      have ho : okV (c.toNat : Int) 0 (⟨#[]⟩ : ByteArray).data.toList = false := by simp [okV, c0, c1, c2, c3]; omega
      rw [ho]
      exact .inr ⟨rfl, (c.toNat : Int), 0, ⟨#[]⟩, i + 1, by simp, by omega⟩
theorem bt_at' {s : ByteArray} {i : Nat} {c : UInt8} {t : List UInt8} (h : s.data.toList.drop i = c :: t) : bt s (i : Int) = (c.toNat : Int) := by
 rw [bt_data, Int.toNat_natCast]
 have : s.data.toList.getD i 0 = c := by
  have h2 := congrArg (fun l : List UInt8 => l.getD 0 0) h
  simpa [List.getD_eq_getElem?_getD, List.getElem?_drop] using h2
 rw [this]
theorem bt_off {s : ByteArray} {i : Nat} {t : List UInt8} (h : s.data.toList.drop (i + 1) = t) (m : Nat) : bt s ((i + 1 + m : Nat) : Int) = ((t.getD m 0).toNat : Int) := by
 rw [bt_data, Int.toNat_natCast, ← h]
 simp [List.getD_eq_getElem?_getD, List.getElem?_drop]
theorem specLoop_is (s : ByteArray) (i : Nat) (t : List UInt8) (ht : s.data.toList.drop (i + 1) = t) (hl : 8 ≤ t.length) (hs : s.size ≤ 1099511627000) (htl : t.length = s.size - i - 1) (hi : i < s.size) :
  ∀ (d m : Nat), m + d = 8 → Ev (fun k => spec_GetValue.l0 k s (i : Int) (beN (t.take m) : Int) ((m + 1 : Nat) : Int) 1 0 (⟨#[]⟩ : ByteArray)) (1, wrap64 (beN (t.take 8) : Int), mkB [], ((i + 9 : Nat) : Int)) := by
 intro d
 induction d with
 | zero =>
  intro m hm
  obtain rfl : m = 8 := by omega
  refine Ev.step (fun k => rfl) (ev_if_neg (by omega) (ev_bind0 (specValueOk_is _ _ _) ?_))
  have ho : okV 1 (wrap64 (beN (t.take 8) : Int)) (⟨#[]⟩ : ByteArray).data.toList = true := rfl
  rw [ho]
  refine ev_if_pos rfl (ev_conv (ev_some fun _ => rfl) ?_)
  rw [wrap_id (x := (i : Int) + 9) (by omega) (by omega)]
  rfl
 | succ d ih =>
  intro m hm
  have e1 : wrap64 ((i : Int) + ((m + 1 : Nat) : Int)) = ((i + 1 + m : Nat) : Int) := by rw [wrap_id (by omega) (by omega)]; omega
  have e2 : wrap64 (((m + 1 : Nat) : Int) + 1) = ((m + 1 + 1 : Nat) : Int) := by rw [wrap_id (by omega) (by omega)]; omega
  have hml : m < t.length := by omega
  have hlt : beN (t.take m) < 256 ^ 7 := by
   refine Nat.lt_of_lt_of_le (beN_lt _) (Nat.pow_le_pow_right (by omega) ?_)
   rw [List.length_take]
   omega
  have hc := (t.getD m 0).toNat_lt
  have e3 : IntKind.u64.wrap (IntKind.u64.wrap (256 * (beN (t.take m) : Int)) + IntKind.u64.wrap ((t.getD m 0).toNat : Int)) = (beN (t.take (m + 1)) : Int) := by
   rw [List.take_succ_eq_append_getElem hml, beN_snoc]
   have eg : t.getD m 0 = t[m] := by rw [List.getD_eq_getElem?_getD, List.getElem?_eq_getElem hml]; rfl
   rw [← eg]
   obtain ⟨C, hC⟩ : ∃ C, C = (t.getD m 0).toNat := ⟨_, rfl⟩
   rw [← hC] at hc ⊢
   simp only [IntKind.wrap, IntKind.bits, IntKind.signed]
   simp
   omega
  refine Ev.step (fun k => rfl) (ev_if_pos (by omega) ?_)
  rw [e1]
  refine ev_if_pos (by omega) (ev_if_pos (by omega) ?_)
  rw [bt_off ht m, e3, e2]
  exact ih (m + 1) (by omega)
set_option maxHeartbeats 2000000 in
theorem specGetValue_is (s : ByteArray) (i : Int) (hs : s.size ≤ 1099511627000) : Ev (fun k => spec_GetValue.f k s i) (getAt s i) := by
 have hn : Ev (fun _ : Nat => some ((0, 0, (⟨#[]⟩ : ByteArray), (-1)) : Int × Int × ByteArray × Int)) (0, 0, mkB [], -1) := ev_some fun _ => rfl
 have hw : wrap64 ((s.size : Int) - 1) = (s.size : Int) - 1 := wrap_id (by omega) (by omega)
 unfold getAt
 rcases (show i < 0 ∨ 0 ≤ i by omega) with h0 | h0
 ·rw [if_neg (by omega)]
  refine ev_bind0 (a := false) ?_ (ev_if_neg (by simp) hn)
  unfold spec_l01In.f
  rw [if_neg (by omega)]
 obtain ⟨j, rfl⟩ := Int.eq_ofNat_of_zero_le h0
 rcases (show ¬ j < s.size ∨ j < s.size by omega) with h1 | h1
 ·refine ev_bind0 (a := false) ?_ (ev_if_neg (by simp) ?_)
  ·unfold spec_l01In.f
   rw [if_pos (by omega), hw]
   simp
   omega
  ·by_cases h2 : (j : Int) ≤ (s.size : Int)
   ·rw [if_pos ⟨by omega, h2⟩, Int.toNat_natCast, List.drop_of_length_le (by rw [← size_data]; omega)]
    exact hn
   ·rw [if_neg (by omega)]
    exact hn
 rw [if_pos ⟨by omega, by omega⟩, Int.toNat_natCast]
 cases hd : s.data.toList.drop j with
 | nil =>
  have hl := congrArg List.length hd
  rw [List.length_drop, ← size_data, List.length_nil] at hl
  omega
 | cons c t =>
  obtain ⟨_, ht, htl⟩ := drop_cons_at hd
  have hc := c.toNat_lt
  have e0 : wrap64 (bt s (j : Int)) = (c.toNat : Int) := by rw [bt_at' hd]; exact wrap_byte c
  have eb : ∀ b u, t = b :: u → wrap64 (bt s (wrap64 ((j : Int) + 1))) = (b.toNat : Int) := by
   rintro b u rfl
   rw [wrap_id (x := (j : Int) + 1) (by omega) (by omega), show (j : Int) + 1 = ((j + 1 : Nat) : Int) by omega, bt_at' ht]
   exact wrap_byte b
  have ed : wrap64 ((s.size : Int) - (j : Int)) = ((t.length + 1 : Nat) : Int) := by rw [wrap_id (by omega) (by omega)]; omega
  have e1 : wrap64 ((j : Int) + 1) = ((j + 1 : Nat) : Int) := by rw [wrap_id (by omega) (by omega)]; omega
  have e2 : wrap64 ((j : Int) + 2) = ((j + 2 : Nat) : Int) := by rw [wrap_id (by omega) (by omega)]; omega
  -- behind the three guards
  have j3no : ∀ (a : Int), a ≠ 0 → Ev (fun k => spec_GetValue.j3 k s (j : Int) 1 false a 0 (⟨#[]⟩ : ByteArray)) (0, 0, mkB [], -1) := fun a ha =>
   Ev.step (fun k => rfl) (ev_if_neg ha hn)
  refine ev_bind0 (a := true) ?_ (ev_if_pos rfl (ev_if_pos (by omega) (ev_if_pos (by omega) ?_)))
  ·unfold spec_l01In.f
   rw [if_pos (by omega), hw]
   simp
   omega
  rw [e0, ed]
  unfold getV
  dsimp only
  by_cases c1 : c.toNat = 1
  ·rw [if_pos c1]
   refine ev_if_pos (by omega) ?_
   by_cases h8 : 8 ≤ t.length
   ·rw [if_pos h8]
    refine Ev.step (fun k => rfl) (ev_if_pos (by simp; omega) ?_)
    rw [c1]
    exact ev_conv (specLoop_is s j t ht h8 hs htl (by omega) 8 0 (by omega)) rfl
   ·rw [if_neg h8]
    refine Ev.step (fun k => rfl) (ev_if_neg (by simp; omega) (ev_if_neg (by omega) (Ev.step (fun k => rfl) (ev_if_neg (by omega) (j3no _ (by omega))))))
  rw [if_neg c1]
  refine ev_if_neg (by omega) (Ev.step (fun k => rfl) ?_)
  by_cases c2 : c.toNat = 2
  ·rw [if_pos c2]
   refine ev_if_pos (by omega) ?_
   rw [ed]
   cases t with
   | nil =>
    exact Ev.step (fun k => rfl) (ev_if_neg (by omega) (j3no _ (by omega)))
   | cons b u =>
    rw [List.length_cons] at htl
    refine Ev.step (fun k => rfl) (ev_if_pos (by simp; omega) ?_)
    rw [eb b u rfl, e1, e2]
    refine ev_if_pos (by omega) (ev_if_pos (by omega) (ev_bind0 (specValueOk_is _ _ _) ?_))
    have ho : okV (c.toNat : Int) (b.toNat : Int) (⟨#[]⟩ : ByteArray).data.toList = decide (b.toNat ≤ 1) := by simp [okV, c2]; omega
    rw [ho]
    by_cases hb : b.toNat ≤ 1
    ·exact ev_if_pos (by simp [hb]) (ev_conv (ev_some fun _ => rfl) (by simp [packV, hb, c2]; rfl))
    ·exact ev_if_neg (by simp [hb]) (ev_conv hn (by simp [packV, hb]))
  rw [if_neg c2]
  refine ev_if_neg (by omega) (Ev.step (fun k => rfl) ?_)
  by_cases c3 : c.toNat = 3
  ·rw [if_pos c3]
   refine ev_if_pos (by omega) ?_
   rw [ed]
   cases t with
   | nil => exact ev_if_neg (by simp) (j3no _ (by omega))
   | cons m u =>
    rw [List.length_cons] at htl ed ⊢
    have hm := m.toNat_lt
    have hu : s.data.toList.drop (j + 2) = u := (drop_cons_at ht).2.1
    have q1 : 0 ≤ ((j + 1 : Nat) : Int) := by omega
    have q2 : ((j + 1 : Nat) : Int) < (s.size : Int) := by omega
    have q3 : 0 ≤ ((j + 2 : Nat) : Int) := by omega
    have q4 : ((j + 2 : Nat) : Int) ≤ ((j + (2 + m.toNat) : Nat) : Int) := by omega
    have q5 : m.toNat ≤ u.length → ((j + (2 + m.toNat) : Nat) : Int) ≤ (s.size : Int) := by omega
    have q6 : m.toNat ≤ u.length → decide ((u.length : Int) ≥ (m.toNat : Int)) = true := fun h => decide_eq_true (by omega)
    have q7 : ¬ m.toNat ≤ u.length → decide ((u.length : Int) ≥ (m.toNat : Int)) = false := fun h => decide_eq_false (by omega)
    have q8 : (c.toNat : Int) ≠ 0 := by omega
    have q9 : ((u.length + 1 + 1 : Nat) : Int) ≥ 2 := by omega
    have e4 : wrap64 (((u.length + 1 + 1 : Nat) : Int) - 2) = (u.length : Int) := by rw [wrap_id (by omega) (by omega)]; omega
    have e5 : wrap64 ((j : Int) + wrap64 (2 + (m.toNat : Int))) = ((j + (2 + m.toNat) : Nat) : Int) := by rw [wrap_id (x := 2 + (m.toNat : Int)) (by omega) (by omega), wrap_id (by omega) (by omega)]; omega
    have e6 := eb m u rfl
    rw [e1] at e6
    refine ev_if_pos q9 ?_
    rw [e1, e4, e6]
    refine ev_if_pos q1 (ev_if_pos q2 ?_)
    by_cases hl : m.toNat ≤ u.length
    ·refine Ev.step (fun k => rfl) (ev_if_pos (q6 hl) ?_)
     rw [e1, e6, e2, e5]
     refine ev_if_pos q1 (ev_if_pos q2 (ev_if_pos q3 (ev_if_pos q4 (ev_if_pos (q5 hl) (ev_bind0 (specValueOk_is _ _ _) ?_)))))
     have hx : s.extract ((j + 2 : Nat) : Int).toNat ((j + (2 + m.toNat) : Nat) : Int).toNat = mkB (u.take m.toNat) := by
      rw [extract_mk, Int.toNat_natCast, Int.toNat_natCast, hu, show j + (2 + m.toNat) - (j + 2) = m.toNat by omega]
     rw [hx, mkB_data]
     have ho : okV (c.toNat : Int) 0 (u.take m.toNat) = decide (m.toNat ≤ 100) := by simp [okV, c3]; omega
     rw [ho]
     by_cases hb : m.toNat ≤ 100
     ·exact ev_if_pos (by simp [hb]) (ev_conv (ev_some fun _ => rfl) (by simp [packV, hb, hl, c3]))
     ·exact ev_if_neg (by simp [hb]) (ev_conv hn (by simp [packV, hb]))
    ·rw [q7 hl]
     exact ev_conv (j3no (c.toNat : Int) q8) (by simp [packV, hl])
  rw [if_neg c3]
  refine ev_if_neg (by omega) (Ev.step (fun k => rfl) ?_)
  by_cases c0 : c.toNat = 0
  ·rw [if_pos c0]
   refine ev_if_pos (by omega) (ev_bind0 (specValueOk_is _ _ _) ?_)
   have ho : okV (c.toNat : Int) 0 (⟨#[]⟩ : ByteArray).data.toList = true := by simp [okV, c0]
   rw [ho]
   refine ev_if_pos rfl (ev_conv (ev_some fun _ => rfl) ?_)
   rw [e1]
   simp [packV, c0]
   rfl
  ·rw [if_neg c0]
   exact ev_if_neg (by omega) hn
def cmpW (x y : S50) : Int := cmpV x.f0 x.f1 x.f2 y.f0 y.f1 y.f2
def cmpRow : List S50 → List S50 → Int
 | [], [] => 0
 | [], _ :: _ => -1
 | _ :: _, [] => 1
 | x :: xs, y :: ys => if cmpW x y = 0 then cmpRow xs ys else cmpW x y
theorem specCompareRow_tail (xs ys : List S50) (i : Nat) (h : i = xs.length ∨ i = ys.length) (h0 : i ≤ xs.length) (h1 : i ≤ ys.length) :
  (if (xs.length : Int) < (ys.length : Int) then (some (-1)) else (if (xs.length : Int) > (ys.length : Int) then (some 1) else (some 0))) = some (cmpRow (xs.drop i) (ys.drop i)) := by
 by_cases hx : i < xs.length
 ·have hy : i = ys.length := by omega
  rw [if_neg (by omega), if_pos (by omega), drop_cons_getD z50 hx, show ys.drop i = [] from List.drop_eq_nil_of_le (by omega), cmpRow]
 ·by_cases hy : i < ys.length
  ·rw [if_pos (by omega), drop_cons_getD z50 hy, show xs.drop i = [] from List.drop_eq_nil_of_le (by omega), cmpRow]
  ·rw [if_neg (by omega), if_neg (by omega), show xs.drop i = [] from List.drop_eq_nil_of_le (by omega), show ys.drop i = [] from List.drop_eq_nil_of_le (by omega), cmpRow]
theorem specCompareRow_loop (xs ys : List S50) (hn : xs.length ≤ 9223372036854775807) : ∀ (n i : Nat), xs.length - i = n → i ≤ xs.length → i ≤ ys.length → Ev (fun k => spec_CompareRow.l0 k xs ys i) (cmpRow (xs.drop i) (ys.drop i)) := by
 intro n
 induction n with
 | zero =>
  intro i h1 h2 h3
  refine Ev.step (fun k => rfl) (ev_if_neg (by omega) (Ev.step (fun k => rfl) (ev_some fun _ => specCompareRow_tail xs ys i (.inl (by omega)) h2 h3)))
 | succ n ih =>
  intro i h1 h2 h3
  have hi : i < xs.length := by omega
  refine Ev.step (fun k => rfl) (ev_if_pos (by omega) (Ev.step (fun k => rfl) ?_))
  by_cases hy : i < ys.length
  ·refine ev_if_pos (decide_eq_true (by omega)) (ev_if_pos (by omega) (ev_if_pos (by omega) (ev_if_pos (by omega) ?_)))
   refine ev_bind0 (a := cmpW (xs.getD i z50) (ys.getD i z50)) (by rw [← Int.toNat_natCast i]; rfl) ?_
   rw [wrap_succ hi hn, drop_cons_getD z50 hi, drop_cons_getD z50 hy, cmpRow]
   by_cases hc : cmpW (xs.getD i z50) (ys.getD i z50) = 0
   ·rw [if_pos hc]
    exact ev_if_pos hc (ih (i + 1) (by omega) (by omega) (by omega))
   ·rw [if_neg hc]
    exact ev_if_neg hc (ev_some fun _ => rfl)
  ·exact ev_if_neg (by simpa using hy) (ev_some fun _ => specCompareRow_tail xs ys i (.inr (by omega)) h2 h3)
theorem specCompareRow_is (xs ys : List S50) (hn : xs.length ≤ 9223372036854775807) : Ev (fun k => spec_CompareRow.f k xs ys) (cmpRow xs ys) := specCompareRow_loop xs ys hn xs.length 0 rfl (Nat.zero_le _) (Nat.zero_le _)
theorem implCompareRow_is4 (k : Nat) : ∀ xs ys, impl_CompareRow.f (k + 4) xs ys = some (cmpRow xs ys)
 | [], [] => rfl
 | [], _ :: _ => rfl
 | _ :: _, [] => rfl
 | x :: xs, y :: ys => by
  have ih := implCompareRow_is4 k xs ys
  unfold impl_CompareRow.f at ih ⊢
  rw [cmpO, compareValue_is, Option.bind_some, cmpRow, ih]
  show (if cmpW x y = 0 then _ else some (cmpW x y)) = _
  by_cases hc : cmpW x y = 0 <;> simp [hc]
theorem implCompareRow_is (xs ys : List S50) : Ev (fun k => impl_CompareRow.f k xs ys) (cmpRow xs ys) := ⟨4, fun k hk => by
 obtain ⟨m, rfl⟩ : ∃ m, k = m + 4 := ⟨k - 4, by omega⟩
 exact implCompareRow_is4 m xs ys⟩
def RowP (xs : List S50) (w : Int) : Prop := (∀ x ∈ xs, okV x.f0 x.f1 x.f2.data.toList = true) ∧ (xs.length : Int) = w
theorem l01In_is (a b c : Int) : spec_l01In.f a b c = some (decide (b ≤ a ∧ a ≤ c)) := by
 unfold spec_l01In.f
 by_cases h : a ≥ b
 ·rw [if_pos h]
  by_cases h' : a ≤ c <;> simp [h', show b ≤ a from h]
 ·rw [if_neg h, decide_eq_false (by omega)]
theorem spec_row_is (xs : List S50) (w : Int) (hn : xs.length ≤ 9223372036854775807) (r : Bool) (hr : r = true ↔ RowP xs w) : Ev (fun k => spec_l02Row.f k xs w) r := by
 refine all_loop xs.length (fun k i => spec_l02Row.l0 k xs w i) (fun j => okV (xs.getD j z50).f0 (xs.getD j z50).f1 (xs.getD j z50).f2.data.toList = true) ((xs.length : Int) = w) ?_ ?_ r (hr.trans ?_)
 ·intro r hr
  refine Ev.step (fun k => rfl) (ev_if_neg (by omega) (ev_some fun _ => ?_))
  congr 1
  rw [Bool.eq_iff_iff, hr, beq_iff_eq]
 ·intro i hi r next no
  refine Ev.step (fun k => rfl) (ev_if_pos (by omega) (ev_if_pos (by omega) (ev_bind0 (specValueOk_is _ _ _) ?_)))
  rw [wrap_succ hi hn]
  by_cases h : okV (xs.getD i z50).f0 (xs.getD i z50).f1 (xs.getD i z50).f2.data.toList = true
  ·exact ev_if_pos h (next h)
  ·exact ev_if_neg h (ev_conv (ev_some fun _ => rfl) (no h).symm)
 ·unfold RowP
  rw [forall_getD z50 (p := fun x => okV x.f0 x.f1 x.f2.data.toList = true)]
theorem allO_eq {α : Type} {f : α → Option Bool} {g : α → Bool} : ∀ {xs : List α}, (∀ x ∈ xs, f x = some (g x)) → allO f xs = some (xs.all g)
 | [], _ => rfl
 | x :: xs, h => by
  rw [allO, h x (List.mem_cons_self ..), Option.bind_some, List.all_cons]
  cases g x with
  | false => rfl
  | true => rw [if_pos rfl, allO_eq fun y hy => h y (List.mem_cons_of_mem _ hy), Bool.true_and]
theorem within_is (a b c : Int) : impl_within.f a b c = some (decide (b ≤ a ∧ a ≤ c)) := by
 unfold impl_within.f
 by_cases h : b ≤ a
 ·rw [if_pos h]
  by_cases h' : a ≤ c <;> simp [h', h]
 ·rw [if_neg h, decide_eq_false (by omega)]
theorem impl_row_is (xs : List S50) (w : Int) (r : Bool) (hr : r = true ↔ RowP xs w) : impl_isRow.f xs w = some r := by
 unfold impl_isRow.f
 by_cases h : (xs.length : Int) = w
 ·rw [if_pos h, allO_eq (g := fun x => okV x.f0 x.f1 x.f2.data.toList) fun x _ => implValueOk_is _ _ _]
  congr 1
  rw [Bool.eq_iff_iff, hr, List.all_eq_true]
  exact ⟨fun g => ⟨g, h⟩, fun g => g.1⟩
 ·rw [if_neg h]
  cases r with
  | false => rfl
  | true => exact absurd (hr.1 rfl).2 h
def CntP (w : Int) (xs : List S47) (j : Nat) : Prop :=
 RowP (xs.getD j z47).f0 w ∧ (xs.getD j z47).f1 ≠ 0 ∧ (-1000000000 ≤ (xs.getD j z47).f1 ∧ (xs.getD j z47).f1 ≤ 1000000000) ∧ (0 < j → cmpRow (xs.getD (j - 1) z47).f0 (xs.getD j z47).f0 < 0)
def BagP (w : Int) (xs : List S47) : Prop := (∀ j, j < xs.length → CntP w xs j) ∧ (0 ≤ w ∧ w ≤ 12) ∧ xs.length ≤ 400
open Classical in
theorem spec_bagOk_is (w : Int) (xs : List S47) (hn : xs.length ≤ 1048576) (hx : ∀ x ∈ xs, x.f0.length ≤ 1048576) (r : Bool) (hr : r = true ↔ BagP w xs) : Ev (fun k => spec_BagOk.f k w xs) r := by
 refine all_loop xs.length (fun k i => spec_BagOk.l0 k i w xs) (CntP w xs) ((0 ≤ w ∧ w ≤ 12) ∧ xs.length ≤ 400) ?_ ?_ r hr
 ·intro r hr
  refine Ev.step (fun k => rfl) (ev_if_neg (by omega) (ev_some fun _ => ?_))
  rw [l01In_is, Option.bind_some]
  by_cases h : 0 ≤ w ∧ w ≤ 12
  ·rw [if_pos (decide_eq_true h)]
   congr 1
   rw [Bool.eq_iff_iff, hr, decide_eq_true_eq]
   exact ⟨fun g => ⟨h, by omega⟩, fun g => by have := g.2; omega⟩
  ·rw [if_neg (by simpa using h)]
   cases r with
   | false => rfl
   | true => exact absurd (hr.1 rfl).1 h
 ·intro i hi r next no
  have len : ∀ j, j < xs.length → (xs.getD j z47).f0.length ≤ 9223372036854775807 := fun j hj => Nat.le_trans (hx _ (getD_mem _ hj)) (by omega)
  have stop : ¬ CntP w xs i → Ev (fun _ : Nat => some false) r := fun g => ev_conv (ev_some fun _ => rfl) (no g).symm
  refine Ev.step (fun k => rfl) (ev_if_pos (by omega) (ev_if_pos (by omega) (Ev.bind (spec_row_is (xs.getD i z47).f0 w (len i hi) (decide (RowP (xs.getD i z47).f0 w)) decide_eq_true_iff) ?_)))
  by_cases h1 : RowP (xs.getD i z47).f0 w
  case neg => exact ev_if_neg (by simpa using h1) (stop fun g => h1 g.1)
  refine ev_if_pos (decide_eq_true h1) ?_
  by_cases h2 : (xs.getD i z47).f1 = 0
  case pos => exact ev_if_pos h2 (stop fun g => g.2.1 h2)
  refine ev_if_neg h2 (ev_bind0 (l01In_is _ _ _) ?_)
  by_cases h3 : -1000000000 ≤ (xs.getD i z47).f1 ∧ (xs.getD i z47).f1 ≤ 1000000000
  case neg => exact ev_if_neg (by rw [decide_eq_true_eq]; exact h3) (stop fun g => h3 g.2.2.1)
  refine ev_if_pos (decide_eq_true h3) ?_
  rw [wrap_succ hi (by omega)]
  by_cases h4 : 0 < i
  case neg => exact ev_if_neg (by omega) (next ⟨h1, h2, h3, fun g => absurd g h4⟩)
  rw [wrap_pred h4 (by omega)]
  refine ev_if_pos (by omega) (ev_if_pos (by omega) (ev_if_pos (by omega) (Ev.bind (specCompareRow_is (xs.getD (i - 1) z47).f0 (xs.getD i z47).f0 (len (i - 1) (by omega))) ?_)))
  by_cases h5 : cmpRow (xs.getD (i - 1) z47).f0 (xs.getD i z47).f0 ≥ 0
  ·exact ev_if_pos h5 (stop fun g => by have := g.2.2.2 h4; omega)
  ·exact ev_if_neg h5 (next ⟨h1, h2, h3, fun _ => by omega⟩)
open Classical in
theorem impl_bagOk_is (w : Int) (xs : List S47) (hn : xs.length ≤ 1048576) (r : Bool) (hr : r = true ↔ BagP w xs) : Ev (fun k => impl_BagOk.f k w xs) r := by
 unfold impl_BagOk.f
 rw [within_is]
 refine Ev.congr (fun k => Option.bind_some _ _) ?_
 have no : ¬ BagP w xs → r = false := fun h => by
  cases r with
  | false => rfl
  | true => exact absurd (hr.1 rfl) h
 by_cases hw : 0 ≤ w ∧ w ≤ 12
 case neg => exact ev_if_neg (by rw [decide_eq_true_eq]; exact hw) (Ev.step (fun k => rfl) (ev_conv (ev_some fun _ => rfl) (no fun g => hw g.2.1).symm))
 refine ev_if_pos (decide_eq_true hw) ?_
 by_cases hl : (xs.length : Int) > 400
 case pos => exact Ev.step (fun k => rfl) (ev_if_pos (decide_eq_true hl) (ev_conv (ev_some fun _ => rfl) (no fun g => by have := g.2.2; omega).symm))
 refine Ev.step (fun k => rfl) (ev_if_neg (by rw [decide_eq_true_eq]; exact hl) ?_)
 refine all_loop xs.length (fun k i => impl_BagOk.l0 k xs (xs.length : Int) i w xs) (CntP w xs) True ?_ ?_ r (hr.trans ⟨fun g => ⟨g.1, trivial⟩, fun g => ⟨g.1, hw, by omega⟩⟩)
 ·intro r hr
  exact Ev.step (fun k => rfl) (ev_if_neg (by omega) (ev_conv (ev_some fun _ => rfl) (hr.2 trivial).symm))
 ·intro i hi r next no
  have stop : ¬ CntP w xs i → Ev (fun _ : Nat => some false) r := fun g => ev_conv (ev_some fun _ => rfl) (no g).symm
  refine Ev.step (fun k => rfl) (ev_if_pos (by omega) (ev_if_pos (by omega) (ev_if_pos (by omega) (ev_bind0 (impl_row_is (xs.getD i z47).f0 w (decide (RowP (xs.getD i z47).f0 w)) decide_eq_true_iff) ?_))))
  by_cases h1 : RowP (xs.getD i z47).f0 w
  case neg => exact ev_if_neg (by simpa using h1) (stop fun g => h1 g.1)
  refine ev_if_pos (decide_eq_true h1) ?_
  by_cases h2 : (xs.getD i z47).f1 = 0
  case pos => exact ev_if_pos h2 (stop fun g => g.2.1 h2)
  refine ev_if_neg h2 (ev_bind0 (within_is _ _ _) ?_)
  by_cases h3 : -1000000000 ≤ (xs.getD i z47).f1 ∧ (xs.getD i z47).f1 ≤ 1000000000
  case neg => exact ev_if_neg (by rw [decide_eq_true_eq]; exact h3) (stop fun g => h3 g.2.2.1)
  refine ev_if_pos (decide_eq_true h3) ?_
  rw [wrap_succ hi (by omega)]
  by_cases h4 : 0 < i
  case neg => exact ev_if_neg (by omega) (next ⟨h1, h2, h3, fun g => absurd g h4⟩)
  rw [wrap_pred h4 (by omega)]
  refine ev_if_pos (by omega) (ev_if_pos (by omega) (ev_if_pos (by omega) (Ev.bind (implCompareRow_is (xs.getD (i - 1) z47).f0 (xs.getD i z47).f0) ?_)))
  by_cases h5 : cmpRow (xs.getD (i - 1) z47).f0 (xs.getD i z47).f0 ≥ 0
  ·exact ev_if_pos h5 (stop fun g => by have := g.2.2.2 h4; omega)
  ·exact ev_if_neg h5 (next ⟨h1, h2, h3, fun _ => by omega⟩)
theorem digit_cut (d : Nat) (hd : d < 10) : (⟨#[48, 49, 50, 51, 52, 53, 54, 55, 56, 57]⟩ : ByteArray).extract d (d + 1) = mkB [UInt8.ofNat (48 + d)] := by
 have : d = 0 ∨ d = 1 ∨ d = 2 ∨ d = 3 ∨ d = 4 ∨ d = 5 ∨ d = 6 ∨ d = 7 ∨ d = 8 ∨ d = 9 := by omega
 rcases this with rfl | rfl | rfl | rfl | rfl | rfl | rfl | rfl | rfl | rfl <;> rfl
theorem decDigits_pos {u : Nat} (h : 0 < u) : Lib.decDigits u = (if u / 10 = 0 then [] else Lib.decDigits (u / 10)) ++ [UInt8.ofNat (48 + u % 10)] := by
 by_cases h10 : u < 10
 ·rw [Lib.decDigits, dif_pos h10, if_pos (by omega), Nat.mod_eq_of_lt h10]
  rfl
 ·rw [Lib.decDigits, dif_neg h10, if_neg (by omega)]
theorem decLoop_is (a0 : Int) (h0 : -9223372036854775808 ≤ a0) (h1 : a0 ≤ 9223372036854775807) : ∀ (n : Nat) (m : Int) (acc : List UInt8), m.natAbs = n → n ≤ 9223372036854775808 → (m < 0 → a0 < 0) → -9223372036854775808 ≤ m → m ≤ 9223372036854775807 → acc.length + n ≤ 9223372036854775900 →
  (acc.length ≤ 100) → (∀ j, n / 10 ^ j ≠ 0 → acc.length + j < 30) →
  Ev (fun k => spec_DecText.l0 k a0 (mkB acc) m) (mkB ((if a0 < 0 then [45] else []) ++ ((if n = 0 then [] else Lib.decDigits n) ++ acc))) := by
 intro n
 induction n using Nat.strongRecOn with
 | _ n ih =>
  intro m acc hm hn hneg l0 l1 hl hl2 hj
  by_cases z : m = 0
  ·have hn0 : n = 0 := by omega
   refine Ev.step (fun k => rfl) (ev_if_pos z ?_)
   rw [if_pos hn0]
   by_cases ha : a0 < 0
   ·refine ev_if_pos ha (ev_if_pos (by rw [mkB_size]; omega) (ev_conv (ev_some fun _ => rfl) ?_))
    rw [if_pos ha]
    exact mkB_append [45] acc
   ·exact ev_if_neg ha (ev_conv (ev_some fun _ => rfl) (by rw [if_neg ha]; rfl))
  ·have hn0 : 0 < n := by omega
   have hj0 := hj 0 (by simp; omega)
   have hd : n % 10 < 10 := Nat.mod_lt _ (by omega)
   have rest : Ev (fun k => spec_DecText.l0 k a0 (mkB (UInt8.ofNat (48 + n % 10) :: acc)) (wrap64 (Int.tdiv m 10))) (mkB ((if a0 < 0 then [45] else []) ++ ((if n = 0 then [] else Lib.decDigits n) ++ acc))) := by
    have hq : (Int.tdiv m 10).natAbs = n / 10 := by rw [Int.natAbs_tdiv, hm]; rfl
    have hb : -9223372036854775808 ≤ Int.tdiv m 10 ∧ Int.tdiv m 10 ≤ 9223372036854775807 := by omega
    rw [wrap_id hb.1 hb.2]
    have hs : Int.tdiv m 10 < 0 → m < 0 := by
     intro h
     rcases Int.lt_or_le m 0 with g | g
     ·exact g
     ·have := Int.tdiv_nonneg g (show (0 : Int) ≤ 10 by decide)
      omega
    refine ev_conv (ih (n / 10) (by omega) (Int.tdiv m 10) (UInt8.ofNat (48 + n % 10) :: acc) hq (by omega) (fun h => hneg (hs h)) hb.1 hb.2 (by simp; omega) (by simp; omega) (fun j h => ?_)) ?_
    ·have := hj (j + 1) (by rwa [Nat.pow_succ, Nat.mul_comm, ← Nat.div_div_eq_div_mul])
     simp
     omega
    ·rw [if_neg (show ¬ n = 0 by omega), decDigits_pos hn0]
     simp
   have cut : ∀ (d : Int), d = ((n % 10 : Nat) : Int) → ((⟨#[48, 49, 50, 51, 52, 53, 54, 55, 56, 57]⟩ : ByteArray).extract d.toNat (wrap64 (d + 1)).toNat) ++ mkB acc = mkB (UInt8.ofNat (48 + n % 10) :: acc) ∧ ((⟨#[48, 49, 50, 51, 52, 53, 54, 55, 56, 57]⟩ : ByteArray).extract d.toNat (wrap64 (d + 1)).toNat).size + (mkB acc).size ≤ 9223372036854775807 := by
    intro d hd'
    rw [wrap_id (x := d + 1) (by omega) (by omega), show d.toNat = n % 10 by omega, show (d + 1).toNat = n % 10 + 1 by omega, digit_cut _ hd, mkB_append, mkB_size, mkB_size]
    exact ⟨rfl, by simp; omega⟩
   refine Ev.step (fun k => rfl) (ev_if_neg z ?_)
   have ht : (Int.tmod m 10).natAbs = n % 10 := by rw [Int.natAbs_tmod, hm]; rfl
   by_cases s : Int.tmod m 10 < 0
   ·have e : wrap64 (-(Int.tmod m 10)) = ((n % 10 : Nat) : Int) := by rw [wrap_id (by omega) (by omega)]; omega
    obtain ⟨c1, c2⟩ := cut _ e
    refine ev_if_pos s (ev_if_pos (by omega) (ev_if_pos (by rw [wrap_id (x := wrap64 (-(Int.tmod m 10)) + 1) (by omega) (by omega)]; omega) (ev_if_pos (by rw [wrap_id (x := wrap64 (-(Int.tmod m 10)) + 1) (by omega) (by omega)]; omega) (ev_if_pos c2 ?_))))
    rw [c1]
    exact rest
   ·have e : Int.tmod m 10 = ((n % 10 : Nat) : Int) := by omega
    obtain ⟨c1, c2⟩ := cut _ e
    refine ev_if_neg s (ev_if_pos (by omega) (ev_if_pos (by rw [wrap_id (x := Int.tmod m 10 + 1) (by omega) (by omega)]; omega) (ev_if_pos (by rw [wrap_id (x := Int.tmod m 10 + 1) (by omega) (by omega)]; omega) (ev_if_pos c2 ?_))))
    rw [c1]
    exact rest
theorem specDecText_is (a0 : Int) (h0 : -9223372036854775808 ≤ a0) (h1 : a0 ≤ 9223372036854775807) : Ev (fun k => spec_DecText.f k a0) (mkB (Lib.itoa a0)) := by
 by_cases z : a0 = 0
 ·refine ev_if_pos z (ev_conv (ev_some fun _ => rfl) ?_)
  subst z
  rw [Lib.itoa, if_neg (by decide), Lib.decDigits, dif_pos (by decide)]
  rfl
 ·refine ev_if_neg z (ev_conv (decLoop_is a0 h0 h1 a0.natAbs a0 [] rfl (by omega) (fun h => h) h0 h1 (by simp; omega) (by simp) (fun j h => ?_)) ?_)
  ·have hlt : 10 ^ j ≤ a0.natAbs := by
    rcases Nat.lt_or_ge a0.natAbs (10 ^ j) with g | g
    ·exact absurd (Nat.div_eq_of_lt g) h
    ·exact g
   simp
   rcases Nat.lt_or_ge j 30 with g | g
   ·exact g
   ·have := Nat.pow_le_pow_right (show 0 < 10 by decide) g
    have e : (10 : Nat) ^ 30 = 1000000000000000000000000000000 := by decide
    omega
  ·rw [if_neg (show ¬ a0.natAbs = 0 by omega), List.append_nil, Lib.itoa]
   by_cases s : a0 < 0
   ·rw [if_pos s, if_pos s]
    rfl
   ·rw [if_neg s, if_neg s, show a0.toNat = a0.natAbs by omega]
    rfl
theorem decDigits_len10 : ∀ (k u : Nat), u < 10 ^ (k + 1) → (Lib.decDigits u).length ≤ k + 1
 | k, u, h => by
  by_cases h10 : u < 10
  ·rw [Lib.decDigits, dif_pos h10]
   simp
  ·rw [Lib.decDigits, dif_neg h10]
   cases k with
   | zero => omega
   | succ k =>
    have := decDigits_len10 k (u / 10) (by rw [Nat.pow_succ] at h; omega)
    simp
    omega
theorem itoa_len {b : Int} (h0 : -9223372036854775808 ≤ b) (h1 : b ≤ 9223372036854775807) : (Lib.itoa b).length ≤ 21 := by
 have e : (10 : Nat) ^ (19 + 1) = 100000000000000000000 := by decide
 rw [Lib.itoa]
 by_cases s : b < 0
 ·rw [if_pos s]
  have := decDigits_len10 19 b.natAbs (by omega)
  simp
  omega
 ·rw [if_neg s]
  have := decDigits_len10 19 b.toNat (by omega)
  omega
theorem implDecText_is (a0 : Int) (h0 : -9223372036854775808 ≤ a0) (h1 : a0 ≤ 9223372036854775807) : impl_DecText.f a0 = some (mkB (Lib.itoa a0)) := by
 unfold impl_DecText.f strconv_Itoa.f
 rw [if_pos h0, if_pos h1]
 rfl
def dbl (l : List UInt8) : List UInt8 := l.flatMap fun b => if b = 39 then [39, 39] else [b]
theorem dbl_nil : dbl [] = [] := rfl
theorem dbl_cons (b : UInt8) (l : List UInt8) : dbl (b :: l) = (if b = 39 then [39, 39] else [b]) ++ dbl l := by simp [dbl]
theorem dbl_len (l : List UInt8) : (dbl l).length ≤ 2 * l.length := by
 induction l with
 | nil => exact Nat.le_refl _
 | cons b l ih =>
  rw [dbl_cons, List.length_append, List.length_cons]
  by_cases h : b = 39
  ·rw [if_pos h]
   simp
   omega
  ·rw [if_neg h]
   simp
   omega
theorem cut_one (s : ByteArray) (i : Nat) (h : i < s.data.toList.length) : s.extract i (i + 1) = mkB [s.data.toList.getD i 0] := by
 rw [extract_mk, drop_cons_getD 0 h, show i + 1 - i = 1 by omega]
 rfl
theorem quoteLoop_is (s : ByteArray) (hs : s.data.toList.length ≤ 1000000000000) : ∀ (n i : Nat) (acc : List UInt8), s.data.toList.length - i = n → i ≤ s.data.toList.length → acc.length ≤ 2 * i + 1 → Ev (fun k => spec_l01Quote.l0 k s (mkB acc) i) (mkB (acc ++ (dbl (s.data.toList.drop i) ++ [39]))) := by
 have hz := size_data s
 intro n
 induction n with
 | zero =>
  intro i acc h1 h2 h3
  have e : i = s.data.toList.length := by omega
  refine Ev.step (fun k => rfl) (ev_if_neg (by omega) (ev_if_pos (by rw [mkB_size]; omega) (ev_conv (ev_some fun _ => rfl) ?_)))
  rw [e, List.drop_length, dbl_nil]
  exact mkB_append acc [39]
 | succ n ih =>
  intro i acc h1 h2 h3
  have hi : i < s.data.toList.length := by omega
  have hw : wrap64 ((i : Int) + 1) = ((i + 1 : Nat) : Int) := wrap_succ hi (by omega)
  have hc : s.extract (i : Int).toNat (wrap64 ((i : Int) + 1)).toNat = mkB [s.data.toList.getD i 0] := by
   rw [hw]
   exact cut_one s i hi
  have hb : bt s i = ((s.data.toList.getD i 0).toNat : Int) := bt_data s i
  refine Ev.step (fun k => rfl) (ev_if_pos (by omega) (ev_if_pos (by omega) (ev_if_pos (by rw [hw]; omega) (ev_if_pos (by rw [hw]; omega) ?_))))
  rw [hc, hb, drop_cons_getD 0 hi, dbl_cons]
  generalize s.data.toList.getD i 0 = c
  refine ev_if_pos (by rw [mkB_size, mkB_size, List.length_singleton]; omega) ?_
  rw [mkB_append]
  by_cases h : c = 39
  ·refine ev_if_pos (by rw [h]; rfl) (ev_if_pos (by rw [mkB_size, List.length_append, List.length_singleton]; omega) ?_)
   rw [show (⟨#[39]⟩ : ByteArray) = mkB [39] from rfl, mkB_append, hw]
   refine ev_conv (ih (i + 1) _ (by omega) (by omega) (by simp; omega)) ?_
   rw [if_pos h, h]
   simp
  ·refine ev_if_neg (fun g => h (UInt8.toNat.inj (by rw [show (39 : UInt8).toNat = 39 from rfl]; omega))) ?_
   rw [hw]
   refine ev_conv (ih (i + 1) _ (by omega) (by omega) (by simp; omega)) ?_
   rw [if_neg h]
   simp
theorem specQuote_is (s : ByteArray) (hs : s.data.toList.length ≤ 1000000000000) : Ev (fun k => spec_l01Quote.f k s) (mkB (39 :: (dbl s.data.toList ++ [39]))) :=
 quoteLoop_is s hs _ 0 [39] rfl (Nat.zero_le _) (Nat.le_refl _)
theorem replaceK_miss {old new : List UInt8} {k : Nat} {s : List UInt8} (h : Lib.index s old = -1) : Lib.replaceK old new k s = s := by
 cases k with
 | zero => rfl
 | succ k => rw [Lib.replaceK, if_pos (by rw [h]; rfl)]
theorem replaceK_dbl : ∀ (l : List UInt8) (k : Nat), l.count 39 ≤ k → Lib.replaceK [39] [39, 39] k l = dbl l
 | [], k, _ => by rw [replaceK_miss (by rfl)]; rfl
 | b :: l, k, hk => by
  rw [dbl_cons]
  by_cases h : b = 39
  ·subst h
   rw [if_pos rfl]
   rw [List.count_cons_self] at hk
   cases k with
   | zero => omega
   | succ k =>
    rw [Lib.replaceK_hit [39] [39, 39] k (39 :: l) 0 (by rfl)]
    rw [show (39 :: l).drop (0 + [(39 : UInt8)].length) = l from rfl, replaceK_dbl l k (by omega)]
    rfl
  ·rw [if_neg h]
   rw [List.count_cons_of_ne (fun g => h (by simpa using g))] at hk
   have ih := replaceK_dbl l k hk
   have hp : ([39] : List UInt8).isPrefixOf (b :: l) = false := by
    simp [List.isPrefixOf]
    exact fun g => h g.symm
   have hx : Lib.index (b :: l) [39] = if Lib.index l [39] == -1 then -1 else Lib.index l [39] + 1 := by
    rw [Lib.index, hp]
    rfl
   rw [← ih]
   cases k with
   | zero => rfl
   | succ k =>
    by_cases hm : Lib.index l [39] = -1
    ·rw [replaceK_miss hm, replaceK_miss (by rw [hx, hm]; rfl)]
     rfl
    ·have hge := Lib.index_ge l [39]
     obtain ⟨i, hi⟩ : ∃ i : Nat, Lib.index l [39] = i := ⟨(Lib.index l [39]).toNat, by omega⟩
     rw [Lib.replaceK_hit [39] [39, 39] k l i hi, Lib.replaceK_hit [39] [39, 39] k (b :: l) (i + 1) (by rw [hx, hi, if_neg (by intro g; have := beq_iff_eq.1 g; omega)]; rfl)]
     rw [show i + 1 + [(39 : UInt8)].length = (i + [(39 : UInt8)].length) + 1 by omega, List.drop_succ_cons, List.take_succ_cons]
     rfl
theorem replaceAll_dbl (l : List UInt8) : Lib.replaceAll l [39] [39, 39] = dbl l := by
 unfold Lib.replaceAll Lib.replace Lib.replaceNum
 rw [if_neg (by decide), if_pos (Or.inl (by decide)), Lib.count_one]
 exact replaceK_dbl l _ (Nat.le_refl _)
theorem replaceAll_is (s : ByteArray) (hs : s.data.toList.length ≤ 1000000) : strings_ReplaceAll.f s ⟨#[39]⟩ ⟨#[39, 39]⟩ = some (mkB (dbl s.data.toList)) := by
 have hz := size_data s
 unfold strings_ReplaceAll.f
 have h1 : 1 ≤ (⟨#[39]⟩ : ByteArray).size := Nat.le_refl 1
 have hc : Lib.countB s ⟨#[39]⟩ ≤ s.size := Lib.countB_le ⟨#[39]⟩ h1 s.size s (Nat.le_refl _)
 have h2 : (⟨#[39, 39]⟩ : ByteArray).size = 2 := rfl
 rw [if_pos ⟨by omega, h1, by rw [h2]; omega⟩]
 exact congrArg some (congrArg mkB (replaceAll_dbl s.data.toList))
def vtext (a b : Int) (s : List UInt8) : List UInt8 := if okV a b s then (if a = 0 then [110, 117, 108, 108] else if a = 1 then Lib.itoa b else if a = 3 then 39 :: (dbl s ++ [39]) else if b = 1 then [116, 114, 117, 101] else [102, 97, 108, 115, 101]) else []
theorem okV_kinds {a b : Int} {s : List UInt8} (h : okV a b s = true) : a = 0 ∨ a = 1 ∨ a = 2 ∨ (a = 3 ∧ s.length ≤ 100) := by
 unfold okV at h
 by_cases h0 : a = 0
 ·exact Or.inl h0
 by_cases h1 : a = 1
 ·exact Or.inr (Or.inl h1)
 by_cases h2 : a = 2
 ·exact Or.inr (Or.inr (Or.inl h2))
 rw [if_neg h0, if_neg h1, if_neg h2] at h
 by_cases h3 : a = 3
 ·rw [if_pos h3, Bool.and_eq_true] at h
  exact Or.inr (Or.inr (Or.inr ⟨h3, of_decide_eq_true h.2⟩))
 ·rw [if_neg h3] at h
  cases h
theorem specValueText_is (a b : Int) (s : ByteArray) (h0 : -9223372036854775808 ≤ b) (h1 : b ≤ 9223372036854775807) : Ev (fun k => spec_ValueText.f k a b s) (mkB (vtext a b s.data.toList)) := by
 refine ev_bind0 (specValueOk_is a b s) ?_
 unfold vtext
 by_cases ok : okV a b s.data.toList = true
 ·have hk := okV_kinds ok
  refine ev_if_pos ok ?_
  rw [if_pos ok]
  by_cases k0 : a = 0
  ·refine ev_if_pos k0 (ev_conv (ev_some fun _ => rfl) ?_)
   rw [if_pos k0]
   rfl
  rw [if_neg k0]
  refine ev_if_neg k0 ?_
  by_cases k1 : a = 1
  ·rw [if_pos k1]
   exact ev_if_pos k1 (Ev.bind (specDecText_is b h0 h1) (ev_some fun _ => rfl))
  rw [if_neg k1]
  refine ev_if_neg k1 ?_
  by_cases k3 : a = 3
  ·rw [if_pos k3]
   exact ev_if_pos k3 (Ev.bind (specQuote_is s (by omega)) (ev_some fun _ => rfl))
  rw [if_neg k3]
  refine ev_if_neg k3 ?_
  by_cases n1 : b = 1
  ·exact ev_if_pos n1 (ev_conv (ev_some fun _ => rfl) (by rw [if_pos n1]; rfl))
  ·exact ev_if_neg n1 (ev_conv (ev_some fun _ => rfl) (by rw [if_neg n1]; rfl))
 ·rw [if_neg ok]
  exact ev_if_neg ok (ev_some fun _ => rfl)
theorem implValueText_is (a b : Int) (s : ByteArray) (h0 : -9223372036854775808 ≤ b) (h1 : b ≤ 9223372036854775807) : impl_ValueText.f a b s = some (mkB (vtext a b s.data.toList)) := by
 unfold impl_ValueText.f
 rw [implValueOk_is, Option.bind_some]
 unfold vtext
 by_cases ok : okV a b s.data.toList = true
 ·have hk := okV_kinds ok
  rw [if_pos ok, if_pos ok]
  by_cases k0 : a = 0
  ·rw [if_pos k0, if_pos k0]
   rfl
  rw [if_neg k0, if_neg k0]
  by_cases k1 : a = 1
  ·rw [if_pos k1, if_pos k1, implDecText_is b h0 h1]
   rfl
  rw [if_neg k1, if_neg k1]
  by_cases k2 : a = 2
  ·rw [if_pos k2, if_neg (show ¬ a = 3 by omega)]
   by_cases n1 : b = 1
   ·subst n1
    rfl
   ·rw [if_neg n1, show (b == 1) = false from beq_eq_false_iff_ne.2 n1]
    rfl
  have k3 : a = 3 ∧ s.data.toList.length ≤ 100 := by omega
  have hd := dbl_len s.data.toList
  rw [if_neg k2, if_pos k3.1, replaceAll_is s (by omega), Option.bind_some, if_pos (by rw [mkB_size]; omega), show (⟨#[39]⟩ : ByteArray) = mkB [39] from rfl, mkB_append, if_pos (by rw [mkB_size]; simp; omega), mkB_append]
  simp
 ·rw [if_neg ok, if_neg ok]
  rfl
theorem vtext_len (a b : Int) (s : List UInt8) (h0 : -9223372036854775808 ≤ b) (h1 : b ≤ 9223372036854775807) : (vtext a b s).length ≤ 300 := by
 unfold vtext
 by_cases ok : okV a b s = true
 ·have hk := okV_kinds ok
  have hi := itoa_len h0 h1
  have hd := dbl_len s
  rw [if_pos ok]
  by_cases k0 : a = 0
  ·rw [if_pos k0]
   simp
  rw [if_neg k0]
  by_cases k1 : a = 1
  ·rw [if_pos k1]
   omega
  rw [if_neg k1]
  by_cases k3 : a = 3
  ·rw [if_pos k3]
   simp
   omega
  rw [if_neg k3]
  by_cases n1 : b = 1
  ·rw [if_pos n1]
   simp
  ·rw [if_neg n1]
   simp
 ·rw [if_neg ok]
  simp
theorem join_snoc (xs : List (List UInt8)) (x sep : List UInt8) : Lib.join (xs ++ [x]) sep = (if xs = [] then [] else Lib.join xs sep ++ sep) ++ x := by
 cases xs with
 | nil => rw [if_pos rfl, List.nil_append, List.nil_append, Lib.join_one]
 | cons y r =>
  rw [if_neg (by simp), List.cons_append, Lib.join_cons, Lib.join_cons]
  simp [Lib.joinTail]
theorem sum_take_le {α : Type} (f : α → Nat) (l : List α) (i : Nat) : ((l.take i).map f).sum ≤ (l.map f).sum := by
 conv => rhs; rw [← List.take_append_drop i l]
 rw [List.map_append, List.sum_append]
 omega
theorem take_snoc {α : Type} (d : α) {l : List α} {i : Nat} (h : i < l.length) : l.take (i + 1) = l.take i ++ [l.getD i d] := by
 rw [List.take_add_one, List.getElem?_eq_getElem h, List.getD_eq_getElem?_getD, List.getElem?_eq_getElem h]
 rfl
theorem words_loop {α β : Type} (d : α) (L : Nat → List ByteArray → Int → Option β) (E : Nat → α → Option ByteArray) (F : Nat → List ByteArray → Option β) (tx : α → List UInt8) (xs : List α) (r : β)
  (hL : ∀ k ws i, L (k + 1) ws i = if i < (xs.length : Int) then (if 0 ≤ i then (if i < (xs.length : Int) then ((E k (xs.getD i.toNat d)).bind fun t => if ws.length < 8796093022208 then L k (ws ++ [t]) (wrap64 (i + 1)) else none) else none) else none) else F k ws)
  (hn : xs.length ≤ 1048576) (hE : ∀ x ∈ xs, Ev (fun k => E k x) (mkB (tx x))) (hF : Ev (fun k => F k (xs.map fun x => mkB (tx x))) r) :
  ∀ (n i : Nat), xs.length - i = n → i ≤ xs.length → Ev (fun k => L k ((xs.take i).map fun x => mkB (tx x)) i) r := by
 intro n
 induction n with
 | zero =>
  intro i h1 h2
  refine Ev.step (fun k => hL k _ _) (ev_if_neg (by omega) ?_)
  rw [List.take_of_length_le (by omega)]
  exact hF
 | succ n ih =>
  intro i h1 h2
  have hi : i < xs.length := by omega
  refine Ev.step (fun k => hL k _ _) (ev_if_pos (by omega) (ev_if_pos (by omega) (ev_if_pos (by omega) ?_)))
  rw [Int.toNat_natCast, wrap_succ hi (by omega)]
  refine Ev.bind (hE _ (getD_mem d hi)) (ev_if_pos (by rw [List.length_map, List.length_take]; omega) ?_)
  have hs := ih (i + 1) (by omega) (by omega)
  rw [take_snoc d hi, List.map_append] at hs
  exact hs
theorem join_le1 : ∀ (xs : List (List UInt8)), (Lib.join xs [44]).length ≤ (xs.map fun y => y.length + 2).sum := by
 refine snoc_ind ?_ ?_
 ·simp [Lib.join_nil]
 ·intro l a h
  rw [join_snoc, List.map_append, List.sum_append]
  by_cases e : l = []
  ·rw [if_pos e]
   simp
   omega
  ·rw [if_neg e]
   simp only [List.length_append, List.length_cons, List.length_nil, List.map_cons, List.map_nil, List.sum_cons, List.sum_nil]
   omega
theorem join_take1 {α : Type} (d : α) (tx : α → List UInt8) {xs : List α} {i : Nat} (h : i < xs.length) : Lib.join ((xs.take (i + 1)).map tx) [44] = (if i = 0 then [] else Lib.join ((xs.take i).map tx) [44] ++ [44]) ++ tx (xs.getD i d) := by
 rw [take_snoc d h, List.map_append, List.map_cons, List.map_nil, join_snoc]
 congr 1
 by_cases e : i = 0
 ·rw [if_pos e, if_pos (by rw [e]; rfl)]
 ·rw [if_neg e, if_neg (fun g => ?_)]
  have := congrArg List.length (List.map_eq_nil_iff.1 g)
  rw [List.length_take, List.length_nil] at this
  omega
theorem join_loop1 {α β : Type} (d : α) (L : Nat → ByteArray → Int → Option β) (E : Nat → α → Option ByteArray) (F : Nat → ByteArray → Option β) (tx : α → List UInt8) (xs : List α) (pre : List UInt8) (r : β)
  (hL : ∀ k acc i, L (k + 1) acc i = if i < (xs.length : Int) then (if i > 0 then (if acc.size + 1 ≤ 9223372036854775807 then (if 0 ≤ i then ((E k (xs.getD i.toNat d)).bind fun t => if (acc ++ (⟨#[44]⟩ : ByteArray)).size + t.size ≤ 9223372036854775807 then L k ((acc ++ (⟨#[44]⟩ : ByteArray)) ++ t) (wrap64 (i + 1)) else none) else none) else none) else (if 0 ≤ i then ((E k (xs.getD i.toNat d)).bind fun t => if acc.size + t.size ≤ 9223372036854775807 then L k (acc ++ t) (wrap64 (i + 1)) else none) else none)) else F k acc)
  (hn : xs.length ≤ 1048576) (hE : ∀ x ∈ xs, Ev (fun k => E k x) (mkB (tx x))) (hb : pre.length + (xs.map fun x => (tx x).length + 2).sum ≤ 2305843009213693952)
  (hF : Ev (fun k => F k (mkB (pre ++ Lib.join (xs.map tx) [44]))) r) :
  ∀ (n i : Nat), xs.length - i = n → i ≤ xs.length → Ev (fun k => L k (mkB (pre ++ Lib.join ((xs.take i).map tx) [44])) i) r := by
 have hlen : ∀ i, (Lib.join ((xs.take i).map tx) [44]).length ≤ (xs.map fun x => (tx x).length + 2).sum := fun i => by
  refine Nat.le_trans (join_le1 _) ?_
  rw [List.map_map]
  exact sum_take_le (fun x => (tx x).length + 2) xs i
 intro n
 induction n with
 | zero =>
  intro i h1 h2
  refine Ev.step (fun k => hL k _ _) (ev_if_neg (by omega) ?_)
  rw [List.take_of_length_le (by omega)]
  exact hF
 | succ n ih =>
  intro i h1 h2
  have hi : i < xs.length := by omega
  have hs := ih (i + 1) (by omega) (by omega)
  have hx : (tx (xs.getD i d)).length + 2 ≤ (xs.map fun x => (tx x).length + 2).sum := sum_le_of_mem0 (fun x => (tx x).length + 2) (getD_mem d hi)
  have hl := hlen i
  rw [join_take1 d tx hi] at hs
  have hw : wrap64 ((i : Int) + 1) = ((i + 1 : Nat) : Int) := wrap_succ hi (by omega)
  refine Ev.step (fun k => hL k _ _) (ev_if_pos (by omega) ?_)
  rw [Int.toNat_natCast, hw]
  by_cases e : i = 0
  ·rw [if_pos e] at hs
   refine ev_if_neg (by omega) (ev_if_pos (by omega) (Ev.bind (hE _ (getD_mem d hi)) (ev_if_pos (by rw [mkB_size, mkB_size, List.length_append]; omega) ?_)))
   rw [mkB_append, e]
   rw [e] at hs
   simpa [Lib.join_nil] using hs
  ·rw [if_neg e] at hs
   refine ev_if_pos (by omega) (ev_if_pos (by rw [mkB_size, List.length_append]; omega) (ev_if_pos (by omega) (Ev.bind (hE _ (getD_mem d hi)) ?_)))
   rw [show (⟨#[44]⟩ : ByteArray) = mkB [44] from rfl, mkB_append]
   refine ev_if_pos (by simp only [mkB_size, List.length_append, List.length_cons, List.length_nil]; omega) ?_
   rw [mkB_append]
   simpa using hs
theorem join_is1 {α : Type} (tx : α → List UInt8) (xs : List α) (hn : xs.length ≤ 1048576) (hb : (xs.map fun x => (tx x).length + 2).sum ≤ 140737488355328) : strings_Join.f (xs.map fun x => mkB (tx x)) ⟨#[44]⟩ = some (mkB (Lib.join (xs.map tx) [44])) := by
 unfold strings_Join.f
 have e : (xs.map fun x => mkB (tx x)).map (fun b : ByteArray => b.data.toList) = xs.map tx := by rw [List.map_map]; rfl
 have hl := join_le1 (xs.map tx)
 rw [List.map_map] at hl
 rw [e, show (⟨#[44]⟩ : ByteArray).data.toList = [44] from rfl, if_pos ⟨Nat.le_trans hl hb, by rw [List.length_map]; omega⟩]
 rfl
def vT (x : S50) : List UInt8 := vtext x.f0 x.f1 x.f2.data.toList
def rowT (xs : List S50) : List UInt8 := Lib.join (xs.map vT) [44]
def lineT (c : S47) : List UInt8 := Lib.itoa c.f1 ++ [120, 32] ++ rowT c.f0 ++ [10]
def bagT (xs : List S47) : List UInt8 := xs.flatMap lineT
def i64C (c : S47) : Prop := (-9223372036854775808 ≤ c.f1 ∧ c.f1 ≤ 9223372036854775807) ∧ (c.f0.length ≤ 12) ∧ ∀ v ∈ c.f0, -9223372036854775808 ≤ v.f1 ∧ v.f1 ≤ 9223372036854775807
theorem sum_le_each {α : Type} (f : α → Nat) (b : Nat) : ∀ (l : List α), (∀ x ∈ l, f x ≤ b) → (l.map f).sum ≤ l.length * b
 | [], _ => by simp
 | x :: l, h => by
  have h1 := h x (by simp)
  have h2 := sum_le_each f b l fun y hy => h y (by simp [hy])
  rw [List.map_cons, List.sum_cons, List.length_cons, Nat.add_mul]
  omega
theorem rowT_sum {xs : List S50} (h : xs.length ≤ 12) (hv : ∀ v ∈ xs, -9223372036854775808 ≤ v.f1 ∧ v.f1 ≤ 9223372036854775807) : (xs.map fun x => (vT x).length + 2).sum ≤ 4000 := by
 have g := sum_le_each (fun x => (vT x).length + 2) 302 xs fun x hx => by
  have := vtext_len x.f0 x.f1 x.f2.data.toList (hv x hx).1 (hv x hx).2
  show (vtext _ _ _).length + 2 ≤ 302
  omega
 have : xs.length * 302 ≤ 12 * 302 := Nat.mul_le_mul_right _ h
 omega
theorem rowT_len {xs : List S50} (h : xs.length ≤ 12) (hv : ∀ v ∈ xs, -9223372036854775808 ≤ v.f1 ∧ v.f1 ≤ 9223372036854775807) : (rowT xs).length ≤ 4000 := by
 have a := join_le1 (xs.map vT)
 rw [List.map_map] at a
 exact Nat.le_trans a (rowT_sum h hv)
theorem lineT_len {c : S47} (h : i64C c) : (lineT c).length ≤ 5000 := by
 have a := itoa_len h.1.1 h.1.2
 have b := rowT_len h.2.1 h.2.2
 unfold lineT
 simp only [List.length_append, List.length_cons, List.length_nil]
 omega
theorem bagT_snoc {xs : List S47} {i : Nat} (h : i < xs.length) : bagT (xs.take (i + 1)) = bagT (xs.take i) ++ lineT (xs.getD i z47) := by
 unfold bagT
 rw [take_snoc z47 h, List.flatMap_append]
 simp
theorem bagT_len {xs : List S47} (hx : ∀ c ∈ xs, i64C c) : ∀ i, i ≤ xs.length → (bagT (xs.take i)).length ≤ i * 5000
 | 0, _ => by simp [bagT]
 | i + 1, h => by
  have hi : i < xs.length := by omega
  rw [bagT_snoc hi, List.length_append]
  have a := bagT_len hx i (by omega)
  have b := lineT_len (hx _ (getD_mem z47 hi))
  omega
theorem implBag_loop (xs : List S47) (hn : xs.length ≤ 400) (hx : ∀ c ∈ xs, i64C c) : ∀ (n i : Nat), xs.length - i = n → i ≤ xs.length → Ev (fun k => impl_BagText.l0 k (mkB (bagT (xs.take i))) xs (xs.length : Int) i) (mkB (bagT xs)) := by
 intro n
 induction n with
 | zero =>
  intro i h1 h2
  refine Ev.step (fun k => rfl) (ev_if_neg (by omega) (ev_some fun _ => ?_))
  rw [List.take_of_length_le (by omega)]
 | succ n ih =>
  intro i h1 h2
  have hi : i < xs.length := by omega
  have hs := ih (i + 1) (by omega) (by omega)
  have hc := hx _ (getD_mem z47 hi)
  have hb := bagT_len hx i (by omega)
  rw [bagT_snoc hi] at hs
  have hl := lineT_len hc
  have hi400 : i * 5000 ≤ 400 * 5000 := Nat.mul_le_mul_right _ (by omega)
  generalize hC : xs.getD i z47 = C at *
  generalize bagT (xs.take i) = acc at *
  refine Ev.step (fun k => rfl) (ev_if_pos (by omega) (ev_if_pos (by omega) (ev_if_pos (by omega) ?_)))
  have e : (rd_T47 xs (i : Int)) = C := hC
  rw [e]
  have wl := words_loop z50 (fun k ws j => impl_BagText.l1 k (mkB acc) ws xs (xs.length : Int) (i : Int) C.f0 (C.f0.length : Int) j C.f0 C.f1) (fun _ y => impl_ValueText.f y.f0 y.f1 y.f2)
   (fun k ws => (impl_DecText.f C.f1).bind fun t212 => (if t212.size + 2 ≤ 9223372036854775807 then ((strings_Join.f ws (⟨#[44]⟩ : ByteArray)).bind fun t213 => (if (t212 ++ (⟨#[120, 32]⟩ : ByteArray)).size + t213.size ≤ 9223372036854775807 then (if ((t212 ++ (⟨#[120, 32]⟩ : ByteArray)) ++ t213).size + 1 ≤ 9223372036854775807 then (if (mkB acc).size + (((t212 ++ (⟨#[120, 32]⟩ : ByteArray)) ++ t213) ++ (⟨#[10]⟩ : ByteArray)).size ≤ 140737488355328 then (impl_BagText.l0 k ((mkB acc) ++ (((t212 ++ (⟨#[120, 32]⟩ : ByteArray)) ++ t213) ++ (⟨#[10]⟩ : ByteArray))) xs (xs.length : Int) (wrap64 ((i : Int) + 1))) else (none)) else (none)) else (none))) else (none)))
   vT C.f0 (mkB (bagT xs)) (fun _ _ _ => rfl) (by have := hc.2.1; omega) (fun y hy => ev_some fun _ => implValueText_is y.f0 y.f1 y.f2 (hc.2.2 y hy).1 (hc.2.2 y hy).2) ?_ C.f0.length 0 rfl (Nat.zero_le _)
  ·exact wl
  have il := itoa_len hc.1.1 hc.1.2
  have rl := rowT_len hc.2.1 hc.2.2
  have rs := rowT_sum hc.2.1 hc.2.2
  have q1 : mkB (Lib.itoa C.f1) ++ (⟨#[120, 32]⟩ : ByteArray) = mkB (Lib.itoa C.f1 ++ [120, 32]) := mkB_append _ [120, 32]
  have q2 : mkB (Lib.itoa C.f1 ++ [120, 32]) ++ mkB (rowT C.f0) = mkB (Lib.itoa C.f1 ++ [120, 32] ++ rowT C.f0) := mkB_append _ _
  have q3 : mkB (Lib.itoa C.f1 ++ [120, 32] ++ rowT C.f0) ++ (⟨#[10]⟩ : ByteArray) = mkB (lineT C) := mkB_append _ [10]
  refine ev_bind0 (implDecText_is C.f1 hc.1.1 hc.1.2) (ev_if_pos (by rw [mkB_size]; omega) (ev_bind0 (join_is1 vT C.f0 (by have := hc.2.1; omega) (by omega)) ?_))
  show Ev (fun k => if (mkB (Lib.itoa C.f1) ++ (⟨#[120, 32]⟩ : ByteArray)).size + (mkB (rowT C.f0)).size ≤ 9223372036854775807 then (if ((mkB (Lib.itoa C.f1) ++ (⟨#[120, 32]⟩ : ByteArray)) ++ mkB (rowT C.f0)).size + 1 ≤ 9223372036854775807 then (if (mkB acc).size + (((mkB (Lib.itoa C.f1) ++ (⟨#[120, 32]⟩ : ByteArray)) ++ mkB (rowT C.f0)) ++ (⟨#[10]⟩ : ByteArray)).size ≤ 140737488355328 then (impl_BagText.l0 k ((mkB acc) ++ (((mkB (Lib.itoa C.f1) ++ (⟨#[120, 32]⟩ : ByteArray)) ++ mkB (rowT C.f0)) ++ (⟨#[10]⟩ : ByteArray))) xs (xs.length : Int) (wrap64 ((i : Int) + 1))) else none) else none) else none) _
  rw [q1, q2, q3, mkB_append, wrap_succ hi (by omega)]
  refine ev_if_pos (by simp only [mkB_size, List.length_append, List.length_cons, List.length_nil]; omega) (ev_if_pos (by simp only [mkB_size, List.length_append, List.length_cons, List.length_nil]; omega) (ev_if_pos (by simp only [mkB_size]; omega) ?_))
  exact hs
theorem specBag_loop (w : Int) (xs : List S47) (hn : xs.length ≤ 400) (hx : ∀ c ∈ xs, i64C c) (ok : Ev (fun k => spec_BagOk.f k w xs) true) : ∀ (n i : Nat), xs.length - i = n → i ≤ xs.length → Ev (fun k => spec_BagText.l0 k (mkB (bagT (xs.take i))) i w xs) (mkB (bagT xs)) := by
 have hj := fun (q : Bool) (k : Nat) (a : ByteArray) (i : Int) => (show spec_BagText.j1 (k + 1) a i q w xs = ite (q = true) _ (some a) from rfl)
 intro n
 induction n with
 | zero =>
  intro i h1 h2
  refine Ev.step (fun k => rfl) (ev_if_neg (by omega) (Ev.step (fun k => (hj false k _ _).trans (if_neg Bool.false_ne_true)) (ev_some fun _ => ?_)))
  rw [List.take_of_length_le (by omega)]
 | succ n ih =>
  intro i h1 h2
  have hi : i < xs.length := by omega
  have hs := ih (i + 1) (by omega) (by omega)
  have hc := hx _ (getD_mem z47 hi)
  have hb := bagT_len hx i (by omega)
  rw [bagT_snoc hi] at hs
  have hi400 : i * 5000 ≤ 400 * 5000 := Nat.mul_le_mul_right _ (by omega)
  generalize hC : xs.getD i z47 = C at *
  generalize bagT (xs.take i) = acc at *
  have e : (rd_T47 xs (i : Int)) = C := hC
  have il := itoa_len hc.1.1 hc.1.2
  have rl := rowT_len hc.2.1 hc.2.2
  have rs := rowT_sum hc.2.1 hc.2.2
  refine Ev.step (fun k => rfl) (ev_if_pos (by omega) (Ev.bind ok (Ev.step (fun k => (hj true k _ _).trans (if_pos rfl)) (ev_if_pos (by omega) (ev_if_pos (by omega) ?_)))))
  rw [e]
  have q1 : mkB acc ++ mkB (Lib.itoa C.f1) = mkB (acc ++ Lib.itoa C.f1) := mkB_append _ _
  have q2 : mkB (acc ++ Lib.itoa C.f1) ++ (⟨#[120, 32]⟩ : ByteArray) = mkB (acc ++ Lib.itoa C.f1 ++ [120, 32]) := mkB_append _ [120, 32]
  refine Ev.bind (specDecText_is C.f1 hc.1.1 hc.1.2) (ev_if_pos (by simp only [mkB_size]; omega) ?_)
  rw [q1]
  refine ev_if_pos (by simp only [mkB_size, List.length_append]; omega) ?_
  rw [q2]
  have h0 : 0 ≤ (i : Int) := by omega
  have h1' : (i : Int) < (xs.length : Int) := by omega
  have jl := join_loop1 z50 (fun k a j => spec_BagText.l1 k a (i : Int) j w xs) (fun k y => spec_ValueText.f k y.f0 y.f1 y.f2)
   (fun k a => if a.size + 1 ≤ 9223372036854775807 then spec_BagText.l0 k (a ++ (⟨#[10]⟩ : ByteArray)) (wrap64 ((i : Int) + 1)) w xs else none) vT C.f0 (acc ++ Lib.itoa C.f1 ++ [120, 32]) (mkB (bagT xs))
   (fun k a j => by
    rw [← e]
    exact (show spec_BagText.l1 (k + 1) a (i : Int) j w xs = ite (0 ≤ (i : Int)) (ite ((i : Int) < (xs.length : Int)) _ none) none from rfl).trans ((if_pos h0).trans (if_pos h1')))
   (by have := hc.2.1; omega) (fun y hy => specValueText_is y.f0 y.f1 y.f2 (hc.2.2 y hy).1 (hc.2.2 y hy).2) (by simp only [List.length_append, List.length_cons, List.length_nil]; omega) ?_ C.f0.length 0 rfl (Nat.zero_le _)
  ·simpa [Lib.join_nil] using jl
  have q3 : mkB (acc ++ Lib.itoa C.f1 ++ [120, 32] ++ rowT C.f0) ++ (⟨#[10]⟩ : ByteArray) = mkB (acc ++ lineT C) := by
   rw [show (⟨#[10]⟩ : ByteArray) = mkB [10] from rfl, mkB_append]
   simp [lineT]
  show Ev (fun k => if (mkB (acc ++ Lib.itoa C.f1 ++ [120, 32] ++ rowT C.f0)).size + 1 ≤ 9223372036854775807 then spec_BagText.l0 k (mkB (acc ++ Lib.itoa C.f1 ++ [120, 32] ++ rowT C.f0) ++ (⟨#[10]⟩ : ByteArray)) (wrap64 ((i : Int) + 1)) w xs else none) _
  rw [q3, wrap_succ hi (by omega)]
  exact ev_if_pos (by simp only [mkB_size, List.length_append, List.length_cons, List.length_nil]; omega) hs
open Classical in
theorem bagText_is (w : Int) (xs : List S47) (hn : xs.length ≤ 1048576) (hx : ∀ c ∈ xs, c.f0.length ≤ 1048576) (hi : ∀ c ∈ xs, (-9223372036854775808 ≤ c.f1 ∧ c.f1 ≤ 9223372036854775807) ∧ ∀ v ∈ c.f0, -9223372036854775808 ≤ v.f1 ∧ v.f1 ≤ 9223372036854775807) :
  ∃ t, Ev (fun k => impl_BagText.f k w xs) t ∧ Ev (fun k => spec_BagText.f k w xs) t := by
 have io := impl_bagOk_is w xs hn (decide (BagP w xs)) decide_eq_true_iff
 have so := spec_bagOk_is w xs hn hx (decide (BagP w xs)) decide_eq_true_iff
 by_cases h : BagP w xs
 ·rw [decide_eq_true h] at io so
  have hn4 := h.2.2
  have hc : ∀ c ∈ xs, i64C c := (forall_getD z47 (p := i64C)).1 fun j hj => by
   have m := getD_mem z47 hj
   have hr := (h.1 j hj).1.2
   exact ⟨(hi _ m).1, by have := h.2.1.2; omega, (hi _ m).2⟩
  exact ⟨mkB (bagT xs), Ev.congr (fun k => rfl) (Ev.bind io (ev_if_pos rfl (implBag_loop xs hn4 hc _ 0 rfl (Nat.zero_le _)))), specBag_loop w xs hn4 hc so _ 0 rfl (Nat.zero_le _)⟩
 ·rw [decide_eq_false h] at io so
  refine ⟨mkB [], Ev.congr (fun k => rfl) (Ev.bind io (ev_if_neg (by simp) (ev_some fun _ => rfl))), ?_⟩
  show Ev (fun k => spec_BagText.l0 k (mkB []) 0 w xs) (mkB [])
  have hj := fun (q : Bool) (k : Nat) (a : ByteArray) (i : Int) => (show spec_BagText.j1 (k + 1) a i q w xs = ite (q = true) _ (some a) from rfl)
  by_cases g : (0 : Int) < (xs.length : Int)
  ·exact Ev.step (fun k => rfl) (ev_if_pos g (Ev.bind so (Ev.step (fun k => (hj false k _ _).trans (if_neg Bool.false_ne_true)) (ev_some fun _ => rfl))))
  ·exact Ev.step (fun k => rfl) (ev_if_neg g (Ev.step (fun k => (hj false k _ _).trans (if_neg Bool.false_ne_true)) (ev_some fun _ => rfl)))
theorem okV_size {a b : Int} {s : List UInt8} (h : okV a b s = true) : s.length ≤ 100 := by
 unfold okV at h
 by_cases h0 : a = 0
 ·rw [if_pos h0, Bool.and_eq_true, List.isEmpty_iff] at h
  rw [h.2]; simp
 rw [if_neg h0] at h
 by_cases h1 : a = 1
 ·rw [if_pos h1, List.isEmpty_iff] at h
  rw [h]; simp
 rw [if_neg h1] at h
 by_cases h2 : a = 2
 ·rw [if_pos h2, Bool.and_eq_true, List.isEmpty_iff] at h
  rw [h.2]; simp
 rw [if_neg h2] at h
 by_cases h3 : a = 3
 ·rw [if_pos h3, Bool.and_eq_true, decide_eq_true_eq] at h
  exact h.2
 ·rw [if_neg h3] at h
  cases h
theorem encV_le {a b : Int} {s : List UInt8} (h : s.length ≤ 100) : (encV a b s).length ≤ 110 := by
 unfold encV
 by_cases ok : okV a b s = true
 ·rw [if_pos ok]
  by_cases h1 : a = 1
  ·rw [if_pos h1]; simp [be8]
  rw [if_neg h1]
  by_cases h2 : a = 2
  ·rw [if_pos h2]; simp
  rw [if_neg h2]
  by_cases h3 : a = 3
  ·rw [if_pos h3]; simp; omega
  ·rw [if_neg h3]; simp
 ·rw [if_neg ok]; simp
def encX (x : S50) : List UInt8 := encV x.f0 x.f1 x.f2.data.toList
def encC (c : S47) : List UInt8 := encV 1 c.f1 [] ++ c.f0.flatMap encX
def smallC (c : S47) : Prop := c.f0.length ≤ 12 ∧ ∀ v ∈ c.f0, v.f2.data.toList.length ≤ 100
theorem flat_le {α : Type} (f : α → List UInt8) (b : Nat) : ∀ (l : List α), (∀ x ∈ l, (f x).length ≤ b) → (l.flatMap f).length ≤ l.length * b
 | [], _ => by simp
 | x :: l, h => by
  have h1 := h x (by simp)
  have h2 := flat_le f b l fun y hy => h y (by simp [hy])
  rw [List.flatMap_cons, List.length_append, List.length_cons, Nat.add_mul]
  omega
theorem bytesOf_u8 (l : List UInt8) : (bytesOf (mkB l)).map u8 = l := by
 unfold bytesOf
 rw [mkB_data, List.map_map]
 have : ∀ c : UInt8, (u8 ∘ fun b : UInt8 => (b.toNat : Int)) c = c := fun c => by
  show u8 (c.toNat : Int) = c
  unfold u8
  rw [Int.toNat_natCast]
  exact UInt8.toNat_inj.1 (by rw [UInt8.toNat_ofNat']; have := c.toNat_lt; omega)
 rw [show (u8 ∘ fun b : UInt8 => (b.toNat : Int)) = id from funext this, List.map_id]
theorem bytesOf_len (l : List UInt8) : (bytesOf (mkB l)).length = l.length := by unfold bytesOf; rw [mkB_data, List.length_map]
theorem specRow_loop (w : Int) (xs : List S47) (i : Nat) (hi : i < xs.length) (hs : smallC (xs.getD i z47)) (rest : List UInt8) (B : Nat) (hB : B ≤ 1000000000)
  (hF : ∀ acc : List Int, acc.length ≤ B → Ev (fun k => spec_PutBag.l0 k acc (wrap64 ((i : Int) + 1)) w xs) (mkB (acc.map u8 ++ rest))) :
  ∀ (n j : Nat) (acc : List Int), (xs.getD i z47).f0.length - j = n → j ≤ (xs.getD i z47).f0.length → acc.length + n * 110 ≤ B → Ev (fun k => spec_PutBag.l1 k acc (i : Int) (j : Int) w xs) (mkB (acc.map u8 ++ (((xs.getD i z47).f0.drop j).flatMap encX ++ rest))) := by
 have h0 : 0 ≤ (i : Int) := by omega
 have h1' : (i : Int) < (xs.length : Int) := by omega
 have e : (rd_T47 xs (i : Int)) = xs.getD i z47 := rfl
 obtain ⟨s1, s2⟩ := hs
 intro n
 induction n with
 | zero =>
  intro j acc h1 h2 h3
  refine Ev.step (fun k => rfl) (ev_if_pos h0 (ev_if_pos h1' ?_))
  rw [e]
  refine ev_if_neg (by omega) ?_
  rw [List.drop_of_length_le (by omega)]
  exact hF acc (by omega)
 | succ n ih =>
  intro j acc h1 h2 h3
  have hj : j < (xs.getD i z47).f0.length := by omega
  have hv := s2 _ (getD_mem z50 hj)
  have hz := size_data ((xs.getD i z47).f0.getD j z50).f2
  refine Ev.step (fun k => rfl) (ev_if_pos h0 (ev_if_pos h1' ?_))
  rw [e]
  refine ev_if_pos (by omega) (ev_if_pos (by omega) ?_)
  rw [drop_cons_getD z50 hj, List.flatMap_cons]
  have e2 : (rd_T50 (xs.getD i z47).f0 (j : Int)) = (xs.getD i z47).f0.getD j z50 := rfl
  rw [e2]
  generalize ((xs.getD i z47).f0.getD j z50) = v at *
  have hl : (encX v).length ≤ 110 := encV_le hv
  refine Ev.bind (specPutValue_is v.f0 v.f1 v.f2 (by omega)) (ev_if_pos (by show acc.length + (mkB (encX v)).size < _; rw [mkB_size]; omega) ?_)
  rw [wrap_succ hj (by omega)]
  have := ih (j + 1) (acc ++ bytesOf (mkB (encX v))) (by omega) (by omega) (by rw [List.length_append, bytesOf_len]; omega)
  rw [List.map_append, bytesOf_u8] at this
  simpa [encX] using this
theorem specPut_loop (w : Int) (xs : List S47) (hn : xs.length ≤ 400) (hx : ∀ c ∈ xs, smallC c) :
  ∀ (n i : Nat) (acc : List Int), xs.length - i = n → i ≤ xs.length → acc.length + n * 1500 ≤ 1000000 → Ev (fun k => spec_PutBag.l0 k acc (i : Int) w xs) (mkB (acc.map u8 ++ (xs.drop i).flatMap encC)) := by
 intro n
 induction n with
 | zero =>
  intro i acc h1 h2 h3
  refine Ev.step (fun k => rfl) (ev_if_neg (by omega) (ev_some fun _ => ?_))
  rw [List.drop_of_length_le (by omega), strOfNums_mk]
  simp
 | succ n ih =>
  intro i acc h1 h2 h3
  have hi : i < xs.length := by omega
  have hc := hx _ (getD_mem z47 hi)
  refine Ev.step (fun k => rfl) (ev_if_pos (by omega) (ev_if_pos (by omega) ?_))
  have e : (rd_T47 xs (i : Int)) = xs.getD i z47 := rfl
  rw [e, drop_cons_getD z47 hi, List.flatMap_cons]
  have hr := specRow_loop w xs i hi hc ((xs.drop (i + 1)).flatMap encC) (acc.length + 1450) (by omega) (fun a ha => by rw [wrap_succ hi (by omega)]; exact ih (i + 1) a (by omega) (by omega) (by omega))
  have hl : (encV 1 (xs.getD i z47).f1 []).length ≤ 110 := encV_le (by simp)
  have h12 := hc.1
  have hr0 := hr _ 0 (acc ++ bytesOf (mkB (encV 1 (xs.getD i z47).f1 []))) rfl (Nat.zero_le _) (by rw [List.length_append, bytesOf_len]; omega)
  rw [List.map_append, bytesOf_u8] at hr0
  have sp := specPutValue_is 1 (xs.getD i z47).f1 ⟨#[]⟩ (by decide)
  refine ev_bind0 (show spec_l01Int.f (xs.getD i z47).f1 = some (1, (xs.getD i z47).f1, (⟨#[]⟩ : ByteArray)) from rfl) (Ev.bind sp (ev_if_pos (by show acc.length + (mkB (encV 1 (xs.getD i z47).f1 [])).size < _; rw [mkB_size]; omega) ?_))
  have q : (⟨#[]⟩ : ByteArray).data.toList = [] := rfl
  rw [q]
  rw [show encC (xs.getD i z47) = encV 1 (xs.getD i z47).f1 [] ++ (xs.getD i z47).f0.flatMap encX from rfl]
  simpa using hr0
def encB (w : Int) (xs : List S47) : List UInt8 := u8 (w % 256) :: xs.flatMap encC
open Classical in
theorem specPutBag_is (w : Int) (xs : List S47) (hn : xs.length ≤ 1048576) (hx : ∀ c ∈ xs, c.f0.length ≤ 1048576) : Ev (fun k => spec_PutBag.f k w xs) (mkB (if BagP w xs then encB w xs else [])) := by
 have so := spec_bagOk_is w xs hn hx (decide (BagP w xs)) decide_eq_true_iff
 by_cases h : BagP w xs
 ·rw [decide_eq_true h] at so
  rw [if_pos h]
  have hc : ∀ c ∈ xs, smallC c := (forall_getD z47 (p := smallC)).1 fun j hj => by
   have hr := (h.1 j hj).1
   exact ⟨by have := hr.2; have := h.2.1.2; omega, fun v hv => okV_size (hr.1 v hv)⟩
  have sl := specPut_loop w xs h.2.2 hc _ 0 [w % 256] rfl (Nat.zero_le _) (by have := h.2.2; simp; omega)
  exact Ev.congr (fun k => rfl) (Ev.bind so (ev_if_pos rfl sl))
 ·rw [decide_eq_false h] at so
  rw [if_neg h]
  exact Ev.congr (fun k => rfl) (Ev.bind so (ev_if_neg (by simp) (ev_some fun _ => rfl)))
theorem implRow_loop (xs : List S47) (i : Nat) (row : List S50) (s1 : row.length ≤ 12) (s2 : ∀ v ∈ row, v.f2.data.toList.length ≤ 100) (rest : List UInt8) (B : Nat) (hB : B ≤ 1000000000)
  (hF : ∀ l : List UInt8, l.length ≤ B → Ev (fun k => impl_PutBag.l0 k (mkB l) xs (xs.length : Int) (wrap64 ((i : Int) + 1))) (mkB (l ++ rest))) :
  ∀ (n j : Nat) (l : List UInt8), row.length - j = n → j ≤ row.length → l.length + n * 110 ≤ B → Ev (fun k => impl_PutBag.l1 k (mkB l) xs (xs.length : Int) (i : Int) row (row.length : Int) (j : Int)) (mkB (l ++ ((row.drop j).flatMap encX ++ rest))) := by
 intro n
 induction n with
 | zero =>
  intro j l h1 h2 h3
  refine Ev.step (fun k => rfl) (ev_if_neg (by omega) ?_)
  rw [List.drop_of_length_le (by omega)]
  exact hF l (by omega)
 | succ n ih =>
  intro j l h1 h2 h3
  have hj : j < row.length := by omega
  have hv := s2 _ (getD_mem z50 hj)
  have hz := size_data (row.getD j z50).f2
  refine Ev.step (fun k => rfl) (ev_if_pos (by omega) (ev_if_pos (by omega) (ev_if_pos (by omega) ?_)))
  have e2 : (rd_T50 row (j : Int)) = row.getD j z50 := rfl
  rw [e2, drop_cons_getD z50 hj, List.flatMap_cons]
  generalize (row.getD j z50) = v at *
  have hl : (encX v).length ≤ 110 := encV_le hv
  refine Ev.bind (implPutValue_is v.f0 v.f1 v.f2 (by omega)) (ev_if_pos (by show (mkB l).size + (mkB (encX v)).size ≤ _; rw [mkB_size, mkB_size]; omega) ?_)
  rw [wrap_succ hj (by omega)]
  have := ih (j + 1) (l ++ encX v) (by omega) (by omega) (by rw [List.length_append]; omega)
  show Ev (fun k => impl_PutBag.l1 k (mkB l ++ mkB (encX v)) xs (xs.length : Int) (i : Int) row (row.length : Int) ((j + 1 : Nat) : Int)) _
  rw [mkB_append]
  simpa using this
theorem implPut_loop (xs : List S47) (hn : xs.length ≤ 400) (hx : ∀ c ∈ xs, smallC c) :
  ∀ (n i : Nat) (l : List UInt8), xs.length - i = n → i ≤ xs.length → l.length + n * 1500 ≤ 1000000 → Ev (fun k => impl_PutBag.l0 k (mkB l) xs (xs.length : Int) (i : Int)) (mkB (l ++ (xs.drop i).flatMap encC)) := by
 intro n
 induction n with
 | zero =>
  intro i l h1 h2 h3
  refine Ev.step (fun k => rfl) (ev_if_neg (by omega) (ev_some fun _ => ?_))
  rw [List.drop_of_length_le (by omega)]
  simp
 | succ n ih =>
  intro i l h1 h2 h3
  have hi : i < xs.length := by omega
  have hc := hx _ (getD_mem z47 hi)
  refine Ev.step (fun k => rfl) (ev_if_pos (by omega) (ev_if_pos (by omega) (ev_if_pos (by omega) ?_)))
  have e : (rd_T47 xs (i : Int)) = xs.getD i z47 := rfl
  rw [e, drop_cons_getD z47 hi, List.flatMap_cons]
  have hr := implRow_loop xs i (xs.getD i z47).f0 hc.1 hc.2 ((xs.drop (i + 1)).flatMap encC) (l.length + 1450) (by omega) (fun a ha => by rw [wrap_succ hi (by omega)]; exact ih (i + 1) a (by omega) (by omega) (by omega))
  have hl : (encV 1 (xs.getD i z47).f1 []).length ≤ 110 := encV_le (by simp)
  have h12 := hc.1
  have hr0 := hr _ 0 (l ++ encV 1 (xs.getD i z47).f1 []) rfl (Nat.zero_le _) (by rw [List.length_append]; omega)
  have sp := implPutValue_is 1 (xs.getD i z47).f1 ⟨#[]⟩ (by decide)
  refine ev_bind0 (show impl_number.f (xs.getD i z47).f1 = some (1, (xs.getD i z47).f1, (⟨#[]⟩ : ByteArray)) from rfl) (Ev.bind sp (ev_if_pos (by show (mkB l).size + (mkB (encV 1 (xs.getD i z47).f1 [])).size ≤ _; rw [mkB_size, mkB_size]; omega) ?_))
  have q : (⟨#[]⟩ : ByteArray).data.toList = [] := rfl
  rw [q, mkB_append]
  rw [show encC (xs.getD i z47) = encV 1 (xs.getD i z47).f1 [] ++ (xs.getD i z47).f0.flatMap encX from rfl]
  simpa using hr0
open Classical in
theorem putBag_is (w : Int) (xs : List S47) (hn : xs.length ≤ 1048576) (hx : ∀ c ∈ xs, c.f0.length ≤ 1048576) :
  ∃ t, Ev (fun k => impl_PutBag.f k w xs) t ∧ Ev (fun k => spec_PutBag.f k w xs) t := by
 have io := impl_bagOk_is w xs hn (decide (BagP w xs)) decide_eq_true_iff
 have so := spec_bagOk_is w xs hn hx (decide (BagP w xs)) decide_eq_true_iff
 by_cases h : BagP w xs
 ·rw [decide_eq_true h] at io so
  have hn4 := h.2.2
  have hc : ∀ c ∈ xs, smallC c := (forall_getD z47 (p := smallC)).1 fun j hj => by
   have hr := (h.1 j hj).1
   exact ⟨by have := hr.2; have := h.2.1.2; omega, fun v hv => okV_size (hr.1 v hv)⟩
  have il := implPut_loop xs hn4 hc _ 0 [u8 (w % 256)] rfl (Nat.zero_le _) (by simp; omega)
  have sl := specPut_loop w xs hn4 hc _ 0 [w % 256] rfl (Nat.zero_le _) (by simp; omega)
  refine ⟨mkB (encB w xs), Ev.congr (fun k => rfl) (Ev.bind io (ev_if_pos rfl (Ev.bind (big1_is w) (ev_if_pos (by rw [mkB_size]; simp) ?_)))), Ev.congr (fun k => rfl) (Ev.bind so (ev_if_pos rfl ?_))⟩
  ·show Ev (fun k => impl_PutBag.l0 k (mkB [] ++ mkB [u8 (w % 256)]) xs (xs.length : Int) 0) _
   rw [mkB_append]
   exact il
  ·exact sl
 ·rw [decide_eq_false h] at io so
  exact ⟨⟨#[]⟩, Ev.congr (fun k => rfl) (Ev.bind io (ev_if_neg (by simp) (ev_some fun _ => rfl))), Ev.congr (fun k => rfl) (Ev.bind so (ev_if_neg (by simp) (ev_some fun _ => rfl)))⟩
theorem and255 (n : Int) : Go.bits .and .i64 n 255 = n % 256 := by
 have e : Go.bits .and .i64 n 255 = IntKind.i64.wrap (((BitVec.ofInt 64 n) &&& (BitVec.ofInt 64 255)).toNat : Int) := rfl
 rw [e, BitVec.toNat_and, BitVec.toNat_ofInt, show (BitVec.ofInt 64 255).toNat = 2 ^ 8 - 1 from rfl, Nat.and_two_pow_sub_one_eq_mod, IntKind.wrap_i64]
 have : (n % ((2 ^ 64 : Nat) : Int)).toNat % 2 ^ 8 = (n % 256).toNat := by
  have h : (2 ^ 64 : Nat) = 18446744073709551616 := by decide
  rw [h]
  omega
 rw [this]
 omega
theorem byte_is (l : List Int) (i h : Int) (h0 : 0 ≤ i) (hl : l.length ≤ 1048576) (hi : i ≤ 1048576) : ∃ x i' h', spec_l01Byte.f l i h = some (x, i', h') ∧ 0 ≤ x ∧ x ≤ 255 ∧ 0 ≤ i' ∧ i' ≤ 1048576 := by
 unfold spec_l01Byte.f
 by_cases c : i < (l.length : Int)
 ·rw [if_pos c, if_pos h0]
  refine ⟨_, _, _, rfl, ?_, ?_, ?_, ?_⟩
  ·rw [and255]; omega
  ·rw [and255]; omega
  ·rw [wrap_id (by omega) (by omega)]; omega
  ·rw [wrap_id (by omega) (by omega)]; omega
 ·rw [if_neg c]
  refine ⟨_, _, _, rfl, ?_, ?_, h0, hi⟩
  ·rw [and255]; omega
  ·rw [and255]; omega
theorem below_is (l : List Int) (i h n : Int) (h0 : 0 ≤ i) (hl : l.length ≤ 1048576) (hi : i ≤ 1048576) : ∃ x i' h', spec_l01Below.f l i h n = some (x, i', h') ∧ 0 ≤ x ∧ (0 < n → x < n) ∧ 0 ≤ i' ∧ i' ≤ 1048576 := by
 unfold spec_l01Below.f
 by_cases c : n ≤ 0
 ·rw [if_pos c]
  exact ⟨0, i, h, rfl, by omega, fun g => by omega, h0, hi⟩
 rw [if_neg c]
 by_cases d : n ≤ 256
 ·rw [if_pos d]
  obtain ⟨x, i1, h1, e, x0, x1, g0, g1⟩ := byte_is l i h h0 hl hi
  rw [e, Option.bind_some, if_neg (by omega)]
  refine ⟨_, _, _, rfl, ?_, fun _ => ?_, g0, g1⟩
  ·exact Int.tmod_nonneg _ x0
  ·exact Int.tmod_lt_of_pos _ (by omega)
 ·rw [if_neg d]
  obtain ⟨x, i1, h1, e1, x0, x1, g0, g1⟩ := byte_is l i h h0 hl hi
  obtain ⟨y, i2, h2, e2, y0, y1, g2, g3⟩ := byte_is l i1 h1 g0 hl g1
  obtain ⟨z, i3, h3, e3, z0, z1, g4, g5⟩ := byte_is l i2 h2 g2 hl g3
  obtain ⟨w, i4, h4, e4, w0, w1, g6, g7⟩ := byte_is l i3 h3 g4 hl g5
  simp only [e1, e2, e3, e4, Option.bind_some]
  rw [if_neg (by omega)]
  refine ⟨_, _, _, rfl, ?_, fun _ => ?_, g6, g7⟩
  ·refine Int.tmod_nonneg _ ?_
   unfold wrap64
   omega
  ·exact Int.tmod_lt_of_pos _ (by omega)
theorem once_is (l : List Int) (i h n : Int) (h0 : 0 ≤ i) (hl : l.length ≤ 1048576) (hi : i ≤ 1048576) : ∃ x i' h', spec_l01Once.f l i h n = some (x, i', h') ∧ 0 ≤ i' ∧ i' ≤ 1048576 := by
 obtain ⟨x, i1, h1, e, _, _, g0, g1⟩ := below_is l i h n h0 hl hi
 unfold spec_l01Once.f
 rw [e]
 exact ⟨_, _, _, rfl, g0, g1⟩
theorem pickInt_is (l : List Int) (i h : Int) (xs : List Int) (hx : 0 < xs.length) (h0 : 0 ≤ i) (hl : l.length ≤ 1048576) (hi : i ≤ 1048576) : ∃ x i' h', spec_l01PickInt.f l i h xs = some (x, i', h') ∧ x ∈ xs ∧ 0 ≤ i' ∧ i' ≤ 1048576 := by
 obtain ⟨x, i1, h1, e, x0, x1, g0, g1⟩ := below_is l i h (xs.length : Int) h0 hl hi
 have x2 := x1 (by omega)
 unfold spec_l01PickInt.f
 rw [e, Option.bind_some, if_pos x0, if_pos x2]
 exact ⟨_, _, _, rfl, getD_mem 0 (by omega), g0, g1⟩
theorem pick_is (l : List Int) (i h : Int) (xs : List ByteArray) (hx : 0 < xs.length) (h0 : 0 ≤ i) (hl : l.length ≤ 1048576) (hi : i ≤ 1048576) : ∃ x i' h', spec_l01Pick.f l i h xs = some (x, i', h') ∧ x ∈ xs ∧ 0 ≤ i' ∧ i' ≤ 1048576 := by
 obtain ⟨x, i1, h1, e, x0, x1, g0, g1⟩ := below_is l i h (xs.length : Int) h0 hl hi
 have x2 := x1 (by omega)
 unfold spec_l01Pick.f
 rw [e, Option.bind_some, if_pos x0, if_pos x2]
 exact ⟨_, _, _, rfl, getD_mem ByteArray.empty (by omega), g0, g1⟩
theorem new_is (l : List Int) (hl : l.length ≤ 1048576) : ∃ h, Ev (fun k => spec_l01New.f k l) (l, 0, h) := by
 have loop : ∀ (n i : Nat) (h : Int), l.length - i = n → i ≤ l.length → ∃ h', Ev (fun k => spec_l01New.l0 k l h i) (l, 0, h') := by
  intro n
  induction n with
  | zero =>
   intro i h h1 h2
   exact ⟨h, Ev.step (fun k => rfl) (ev_if_neg (by omega) (ev_some fun _ => rfl))⟩
  | succ n ih =>
   intro i h h1 h2
   by_cases c : (i : Int) < 4000
   ·obtain ⟨h', e⟩ := ih (i + 1) (Go.bits .and .i64 (wrap64 ((wrap64 ((wrap64 (h * 131)) + (wrap64 (rd l (i : Int))))) + 7)) 1073741823) (by omega) (by omega)
    refine ⟨h', Ev.step (fun k => rfl) (ev_if_pos (by omega) (ev_if_pos c (ev_if_pos (by omega) ?_)))⟩
    rw [wrap_succ (n := l.length) (by omega) (by omega)]
    exact e
   ·exact ⟨h, Ev.step (fun k => rfl) (ev_if_pos (by omega) (ev_if_neg c (ev_some fun _ => rfl)))⟩
 obtain ⟨h', e⟩ := loop _ 0 (wrap64 (312312 + (l.length : Int))) rfl (Nat.zero_le _)
 exact ⟨h', Ev.congr (fun k => rfl) e⟩
def okD (a b : Int) (s : ByteArray) : Prop := -9223372036854775808 ≤ a ∧ a ≤ 9223372036854775807 ∧ -9223372036854775808 ≤ b ∧ b ≤ 9223372036854775807 ∧ s.size ≤ 20
theorem drawVal_is (l : List Int) (i h : Int) (h0 : 0 ≤ i) (hl : l.length ≤ 1048576) (hi : i ≤ 1048576) : ∃ a b s i' h', Ev (fun k => spec_l01Value.f k l i h) (a, b, s, i', h') ∧ okD a b s ∧ 0 ≤ i' ∧ i' ≤ 1048576 := by
 obtain ⟨x, i1, h1, e, x0, x1, g0, g1⟩ := below_is l i h 9 h0 hl hi
 by_cases c0 : x = 0
 ·exact ⟨0, 0, ⟨#[]⟩, i1, h1, ev_bind0 e (ev_if_pos c0 (ev_some fun _ => rfl)), ⟨by decide, by decide, by decide, by decide, by decide⟩, g0, g1⟩
 have num : ∃ a b s i' h', (∀ x, Ev (fun k => spec_l01Value.j0 k x true l i1 h1) (a, b, s, i', h')) ∧ okD a b s ∧ 0 ≤ i' ∧ i' ≤ 1048576 := by
  obtain ⟨y, i2, h2, e2, y0, y1, g2, g3⟩ := below_is l i1 h1 5 g0 hl g1
  have y2 := y1 (by decide)
  exact ⟨1, y, ⟨#[]⟩, i2, h2, fun x => ⟨1, fun k hk => by
   obtain ⟨j, rfl⟩ : ∃ j, k = j + 1 := ⟨k - 1, by omega⟩
   show (spec_l01Below.f l i1 h1 5).bind _ = _
   rw [e2]
   rfl⟩, ⟨by decide, by decide, by show (-9223372036854775808 : Int) ≤ y; omega, by show y ≤ (9223372036854775807 : Int); omega, by decide⟩, g2, g3⟩
 obtain ⟨a, b, s, i', h', en, ok, n0, n1⟩ := num
 by_cases c1 : x = 1
 ·exact ⟨a, b, s, i', h', ev_bind0 e (ev_if_neg c0 (ev_if_pos c1 (by rw [show (x == 1) = true from beq_iff_eq.2 c1]; exact en _))), ok, n0, n1⟩
 by_cases c2 : x = 2
 ·exact ⟨a, b, s, i', h', ev_bind0 e (ev_if_neg c0 (ev_if_neg c1 (ev_if_pos c2 (by rw [show (x == 2) = true from beq_iff_eq.2 c2]; exact en _)))), ok, n0, n1⟩
 by_cases c3 : x = 3
 ·exact ⟨a, b, s, i', h', ev_bind0 e (ev_if_neg c0 (ev_if_neg c1 (ev_if_neg c2 (by rw [show (x == 3) = true from beq_iff_eq.2 c3]; exact en _)))), ok, n0, n1⟩
 clear en ok n0 n1
 have hj : ∀ k, spec_l01Value.j0 (k + 1) x false l i1 h1 = if x = 4 then ((spec_l01PickInt.f l i1 h1 [9223372036854775807, (-9223372036854775808), (-1), 4294967296, (-7), 100]).bind fun bt => ((spec_l01Int.f bt.1).bind fun bu => (some (bu.1, bu.2.1, bu.2.2, bt.2.1, bt.2.2)))) else (if x = 5 then ((spec_l01Once.f l i1 h1 2).bind fun bt => ((spec_l01Bool.f bt.1).bind fun bu => (some (bu.1, bu.2.1, bu.2.2, bt.2.1, bt.2.2)))) else ((spec_l01Pick.f l i1 h1 [(⟨#[97]⟩ : ByteArray), (⟨#[98]⟩ : ByteArray), (⟨#[97, 98]⟩ : ByteArray), (⟨#[]⟩ : ByteArray), (⟨#[105, 116, 39, 115]⟩ : ByteArray)]).bind fun bt => (some (3, 0, bt.1, bt.2.1, bt.2.2)))) := fun k => rfl
 have w3 : (x == 3) = false := beq_eq_false_iff_ne.2 c3
 have top : ∀ r, Ev (fun k => spec_l01Value.j0 k x false l i1 h1) r → Ev (fun k => spec_l01Value.f k l i h) r := fun r hr => by
  rw [← w3] at hr
  exact ev_bind0 e (ev_if_neg c0 (ev_if_neg c1 (ev_if_neg c2 hr)))
 by_cases c4 : x = 4
 ·obtain ⟨y, i2, h2, e2, y0, g2, g3⟩ := pickInt_is l i1 h1 [9223372036854775807, (-9223372036854775808), (-1), 4294967296, (-7), 100] (by decide) g0 hl g1
  have yb : -9223372036854775808 ≤ y ∧ y ≤ 9223372036854775807 := by
   simp only [List.mem_cons, List.not_mem_nil, or_false] at y0
   omega
  exact ⟨1, y, ⟨#[]⟩, i2, h2, top _ (Ev.step hj (ev_if_pos c4 (ev_bind0 e2 (ev_some fun _ => rfl)))), ⟨by decide, by decide, yb.1, yb.2, by decide⟩, g2, g3⟩
 by_cases c5 : x = 5
 ·obtain ⟨y, i2, h2, e2, g2, g3⟩ := once_is l i1 h1 2 g0 hl g1
  cases y with
  | true => exact ⟨2, 1, ⟨#[]⟩, i2, h2, top _ (Ev.step hj (ev_if_neg c4 (ev_if_pos c5 (ev_bind0 e2 (ev_some fun _ => rfl))))), ⟨by decide, by decide, by decide, by decide, by decide⟩, g2, g3⟩
  | false => exact ⟨2, 0, ⟨#[]⟩, i2, h2, top _ (Ev.step hj (ev_if_neg c4 (ev_if_pos c5 (ev_bind0 e2 (ev_some fun _ => rfl))))), ⟨by decide, by decide, by decide, by decide, by decide⟩, g2, g3⟩
 ·obtain ⟨y, i2, h2, e2, y0, g2, g3⟩ := pick_is l i1 h1 [(⟨#[97]⟩ : ByteArray), (⟨#[98]⟩ : ByteArray), (⟨#[97, 98]⟩ : ByteArray), (⟨#[]⟩ : ByteArray), (⟨#[105, 116, 39, 115]⟩ : ByteArray)] (by decide) g0 hl g1
  have ys : y.size ≤ 10 := by
   simp only [List.mem_cons, List.not_mem_nil, or_false] at y0
   rcases y0 with rfl | rfl | rfl | rfl | rfl <;> decide
  exact ⟨3, 0, y, i2, h2, top _ (Ev.step hj (ev_if_neg c4 (ev_if_neg c5 (ev_bind0 e2 (ev_some fun _ => rfl))))), ⟨by decide, by decide, by decide, by decide, by omega⟩, g2, g3⟩
theorem u8_toNat {n : Int} (h0 : 0 ≤ n) (h1 : n < 256) : ((u8 n).toNat : Int) = n := by
 unfold u8
 rw [UInt8.toNat_ofNat']
 omega
theorem getV_cons (c : UInt8) (t : List UInt8) : getV (c :: t) = ((if c.toNat = 1 then (if 8 ≤ t.length then some ((1, wrap64 (beN (t.take 8) : Int), []), 9) else none)
  else if c.toNat = 2 then (match t with | [] => none | b :: _ => if b.toNat ≤ 1 then some ((2, (b.toNat : Int), []), 2) else none)
  else if c.toNat = 3 then (match t with | [] => none | m :: u => if m.toNat ≤ 100 ∧ m.toNat ≤ u.length then some ((3, 0, u.take m.toNat), 2 + m.toNat) else none)
  else if c.toNat = 0 then some ((0, 0, []), 1) else none) : Option ((Int × Int × List UInt8) × Nat)) := rfl
theorem be8_len (n : Int) : (be8 n).length = 8 := rfl
theorem beN_8 (c0 c1 c2 c3 c4 c5 c6 c7 : UInt8) : beN [c0, c1, c2, c3, c4, c5, c6, c7] = c0.toNat * 72057594037927936 + c1.toNat * 281474976710656 + c2.toNat * 1099511627776 + c3.toNat * 4294967296 + c4.toNat * 16777216 + c5.toNat * 65536 + c6.toNat * 256 + c7.toNat := by
 simp only [beN, List.foldl_cons, List.foldl_nil]
 omega
theorem be8_back (n : Int) (h0 : -9223372036854775808 ≤ n) (h1 : n ≤ 9223372036854775807) : wrap64 (beN (be8 n) : Int) = n := by
 have g : ∀ w : Int, ((u8 (n / w % 256)).toNat : Int) = n / w % 256 := fun w => u8_toNat (by omega) (by omega)
 have e : (beN (be8 n) : Int) = n / 72057594037927936 % 256 * 72057594037927936 + n / 281474976710656 % 256 * 281474976710656 + n / 1099511627776 % 256 * 1099511627776 + n / 4294967296 % 256 * 4294967296 + n / 16777216 % 256 * 16777216 + n / 65536 % 256 * 65536 + n / 256 % 256 * 256 + n % 256 := by
  have g1 : ((u8 (n % 256)).toNat : Int) = n % 256 := u8_toNat (by omega) (by omega)
  have q := beN_8 (u8 (n / 72057594037927936 % 256)) (u8 (n / 281474976710656 % 256)) (u8 (n / 1099511627776 % 256)) (u8 (n / 4294967296 % 256)) (u8 (n / 16777216 % 256)) (u8 (n / 65536 % 256)) (u8 (n / 256 % 256)) (u8 (n % 256))
  have q' : beN (be8 n) = _ := q
  have := g 72057594037927936
  have := g 281474976710656
  have := g 1099511627776
  have := g 4294967296
  have := g 16777216
  have := g 65536
  have := g 256
  omega
 rw [e]
 unfold wrap64
 omega
theorem okV_kinds0 {a b : Int} {s : List UInt8} (h : okV a b s = true) : (a = 0 ∧ b = 0 ∧ s = []) ∨ (a = 1 ∧ s = []) ∨ (a = 2 ∧ (0 ≤ b ∧ b ≤ 1) ∧ s = []) ∨ (a = 3 ∧ b = 0 ∧ s.length ≤ 100) := by
 unfold okV at h
 by_cases h0 : a = 0
 ·rw [if_pos h0, Bool.and_eq_true, beq_iff_eq, List.isEmpty_iff] at h
  exact Or.inl ⟨h0, h⟩
 rw [if_neg h0] at h
 by_cases h1 : a = 1
 ·rw [if_pos h1, List.isEmpty_iff] at h
  exact Or.inr (Or.inl ⟨h1, h⟩)
 rw [if_neg h1] at h
 by_cases h2 : a = 2
 ·rw [if_pos h2, Bool.and_eq_true, decide_eq_true_eq, List.isEmpty_iff] at h
  exact Or.inr (Or.inr (Or.inl ⟨h2, h⟩))
 rw [if_neg h2] at h
 by_cases h3 : a = 3
 ·rw [if_pos h3, Bool.and_eq_true, beq_iff_eq, decide_eq_true_eq] at h
  exact Or.inr (Or.inr (Or.inr ⟨h3, h⟩))
 ·rw [if_neg h3] at h
  cases h
theorem getV_enc (a b : Int) (s t : List UInt8) (ok : okV a b s = true) (h0 : -9223372036854775808 ≤ b) (h1 : b ≤ 9223372036854775807) : getV (encV a b s ++ t) = some ((a, b, s), (encV a b s).length) := by
 have hk := okV_kinds0 ok
 unfold encV
 rw [if_pos ok]
 rcases hk with ⟨rfl, rfl, rfl⟩ | ⟨rfl, rfl⟩ | ⟨rfl, hb, rfl⟩ | ⟨rfl, rfl, hs⟩
 ·rfl
 ·rw [if_pos rfl]
  have e : getV (1 :: (be8 b ++ t)) = some ((1, wrap64 (beN ((be8 b ++ t).take 8) : Int), []), 9) := by
   rw [getV_cons, if_pos (by rfl), if_pos (by rw [List.length_append, be8_len]; omega)]
  rw [List.cons_append, e, show (be8 b ++ t).take 8 = be8 b from by rw [List.take_append_of_le_length (by rw [be8_len]; omega), List.take_of_length_le (by rw [be8_len]; omega)], be8_back b h0 h1]
  rfl
 ·rw [if_neg (by decide), if_pos rfl]
  have hn := u8_toNat (n := b) (by omega) (by omega)
  show getV (2 :: u8 b :: t) = _
  rw [getV_cons, if_neg (by decide), if_pos (by rfl)]
  show (if (u8 b).toNat ≤ 1 then _ else _) = _
  rw [if_pos (by omega), hn]
  rfl
 ·rw [if_neg (by decide), if_neg (by decide), if_pos rfl]
  have hn := u8_toNat (n := (s.length : Int)) (by omega) (by omega)
  have hm : (u8 (s.length : Int)).toNat = s.length := by omega
  show getV (3 :: u8 (s.length : Int) :: (s ++ t)) = _
  rw [getV_cons, if_neg (by decide), if_neg (by decide), if_pos (by rfl)]
  show (if (u8 (s.length : Int)).toNat ≤ 100 ∧ (u8 (s.length : Int)).toNat ≤ (s ++ t).length then _ else _) = _
  rw [hm, if_pos ⟨hs, by rw [List.length_append]; omega⟩, List.take_append_of_le_length (Nat.le_refl _), List.take_of_length_le (Nat.le_refl _)]
  simp
  omega
theorem u8_of (c : UInt8) : u8 (c.toNat : Int) = c := by
 unfold u8
 rw [Int.toNat_natCast]
 exact UInt8.toNat_inj.1 (by rw [UInt8.toNat_ofNat']; have := c.toNat_lt; omega)
theorem shft (m a : Int) (h : m = a ∨ m = a - 18446744073709551616) : m % 256 = a % 256 ∧ m / 256 % 256 = a / 256 % 256 ∧ m / 65536 % 256 = a / 65536 % 256 ∧ m / 16777216 % 256 = a / 16777216 % 256 ∧ m / 4294967296 % 256 = a / 4294967296 % 256 ∧ m / 1099511627776 % 256 = a / 1099511627776 % 256 ∧ m / 281474976710656 % 256 = a / 281474976710656 % 256 ∧ m / 72057594037927936 % 256 = a / 72057594037927936 % 256 := by
 rcases h with rfl | rfl
 ·exact ⟨rfl, rfl, rfl, rfl, rfl, rfl, rfl, rfl⟩
 ·refine ⟨?_, ?_, ?_, ?_, ?_, ?_, ?_, ?_⟩ <;> omega
theorem dig (a q c : Int) (h : a = q * 256 + c) (h0 : 0 ≤ c) (h1 : c < 256) : a / 256 = q ∧ a % 256 = c := by omega
theorem dd2 (a : Int) : a / 65536 = a / 256 / 256 := by omega
theorem dd3 (a : Int) : a / 16777216 = a / 65536 / 256 := by omega
theorem dd4 (a : Int) : a / 4294967296 = a / 16777216 / 256 := by omega
theorem dd5 (a : Int) : a / 1099511627776 = a / 4294967296 / 256 := by omega
theorem dd6 (a : Int) : a / 281474976710656 = a / 1099511627776 / 256 := by omega
theorem dd7 (a : Int) : a / 72057594037927936 = a / 281474976710656 / 256 := by omega
theorem be8_of (c0 c1 c2 c3 c4 c5 c6 c7 : UInt8) : be8 (wrap64 (beN [c0, c1, c2, c3, c4, c5, c6, c7] : Int)) = [c0, c1, c2, c3, c4, c5, c6, c7] := by
 have b : ∀ c : UInt8, 0 ≤ (c.toNat : Int) ∧ (c.toNat : Int) < 256 := fun c => by have := c.toNat_lt; omega
 obtain ⟨a1, h1⟩ : ∃ a : Int, a = (c0.toNat : Int) * 256 + (c1.toNat : Int) := ⟨_, rfl⟩
 obtain ⟨a2, h2⟩ : ∃ a : Int, a = a1 * 256 + (c2.toNat : Int) := ⟨_, rfl⟩
 obtain ⟨a3, h3⟩ : ∃ a : Int, a = a2 * 256 + (c3.toNat : Int) := ⟨_, rfl⟩
 obtain ⟨a4, h4⟩ : ∃ a : Int, a = a3 * 256 + (c4.toNat : Int) := ⟨_, rfl⟩
 obtain ⟨a5, h5⟩ : ∃ a : Int, a = a4 * 256 + (c5.toNat : Int) := ⟨_, rfl⟩
 obtain ⟨a6, h6⟩ : ∃ a : Int, a = a5 * 256 + (c6.toNat : Int) := ⟨_, rfl⟩
 obtain ⟨a7, h7⟩ : ∃ a : Int, a = a6 * 256 + (c7.toNat : Int) := ⟨_, rfl⟩
 have e : (beN [c0, c1, c2, c3, c4, c5, c6, c7] : Int) = a7 := by
  rw [h7, h6, h5, h4, h3, h2, h1]
  simp only [beN, List.foldl_cons, List.foldl_nil]
  omega
 have r0 : 0 ≤ a7 ∧ a7 < 18446744073709551616 := by
  have := b c0; have := b c1; have := b c2; have := b c3; have := b c4; have := b c5; have := b c6; have := b c7
  omega
 rw [e]
 have hm : wrap64 a7 = a7 ∨ wrap64 a7 = a7 - 18446744073709551616 := by
  clear e h7 h6 h5 h4 h3 h2 h1
  unfold wrap64
  omega
 obtain ⟨m0, m1, m2, m3, m4, m5, m6, m7⟩ := shft _ _ hm
 obtain ⟨d7, e7⟩ := dig _ _ _ h7 (b c7).1 (b c7).2
 obtain ⟨d6, e6⟩ := dig _ _ _ h6 (b c6).1 (b c6).2
 obtain ⟨d5, e5⟩ := dig _ _ _ h5 (b c5).1 (b c5).2
 obtain ⟨d4, e4⟩ := dig _ _ _ h4 (b c4).1 (b c4).2
 obtain ⟨d3, e3⟩ := dig _ _ _ h3 (b c3).1 (b c3).2
 obtain ⟨d2, e2⟩ := dig _ _ _ h2 (b c2).1 (b c2).2
 obtain ⟨d1, e1⟩ := dig _ _ _ h1 (b c1).1 (b c1).2
 have e0 : (c0.toNat : Int) % 256 = c0.toNat := Int.emod_eq_of_lt (b c0).1 (b c0).2
 have g : ∀ (x : Int) (c : UInt8), x = (c.toNat : Int) → u8 x = c := fun x c h => by rw [h, u8_of]
 unfold be8
 simp only [List.cons.injEq, and_true]
 refine ⟨g _ _ ?_, g _ _ ?_, g _ _ ?_, g _ _ ?_, g _ _ ?_, g _ _ ?_, g _ _ ?_, g _ _ ?_⟩
 ·rw [m7, dd7, dd6, dd5, dd4, dd3, dd2, d7, d6, d5, d4, d3, d2, d1, e0]
 ·rw [m6, dd6, dd5, dd4, dd3, dd2, d7, d6, d5, d4, d3, d2, e1]
 ·rw [m5, dd5, dd4, dd3, dd2, d7, d6, d5, d4, d3, e2]
 ·rw [m4, dd4, dd3, dd2, d7, d6, d5, d4, e3]
 ·rw [m3, dd3, dd2, d7, d6, d5, e4]
 ·rw [m2, dd2, d7, d6, e5]
 ·rw [m1, d7, e6]
 ·rw [m0, e7]
theorem getV_can (l : List UInt8) (a b : Int) (x : List UInt8) (n : Nat) (h : getV l = some ((a, b, x), n)) : encV a b x = l.take n ∧ n ≤ l.length ∧ 0 < n ∧ x.length ≤ 100 := by
 cases l with
 | nil => cases h
 | cons c t =>
  have cEq : ∀ m : UInt8, c.toNat = m.toNat → c = m := fun m e => UInt8.toNat_inj.1 e
  rw [getV_cons] at h
  by_cases k1 : c.toNat = 1
  ·rw [if_pos k1] at h
   by_cases k : 8 ≤ t.length
   ·rw [if_pos k] at h
    obtain ⟨⟨rfl, rfl, rfl⟩, rfl⟩ : (1 = a ∧ wrap64 (beN (t.take 8) : Int) = b ∧ [] = x) ∧ 9 = n := by simpa using h
    match t, k with
    | c0 :: c1 :: c2 :: c3 :: c4 :: c5 :: c6 :: c7 :: r, _ =>
     refine ⟨?_, by simp, by decide, by simp⟩
     rw [show (c0 :: c1 :: c2 :: c3 :: c4 :: c5 :: c6 :: c7 :: r).take 8 = [c0, c1, c2, c3, c4, c5, c6, c7] from rfl]
     unfold encV
     rw [if_pos (by rfl), if_pos rfl, be8_of, cEq 1 k1]
     rfl
   ·rw [if_neg k] at h
    cases h
  rw [if_neg k1] at h
  by_cases k2 : c.toNat = 2
  ·rw [if_pos k2] at h
   cases t with
   | nil => cases h
   | cons m r =>
    by_cases k : m.toNat ≤ 1
    ·have h' : some (((2 : Int), (m.toNat : Int), ([] : List UInt8)), 2) = some ((a, b, x), n) := by
      have e : (if m.toNat ≤ 1 then some (((2 : Int), (m.toNat : Int), ([] : List UInt8)), 2) else none) = some ((a, b, x), n) := h
      rwa [if_pos k] at e
     obtain ⟨⟨rfl, rfl, rfl⟩, rfl⟩ : ((2 : Int) = a ∧ (m.toNat : Int) = b ∧ [] = x) ∧ 2 = n := by simpa using h'
     refine ⟨?_, by simp, by decide, by simp⟩
     unfold encV okV
     rw [if_pos (by simp; omega), if_neg (by decide), if_pos rfl, u8_of, cEq 2 k2]
     rfl
    ·have e : (if m.toNat ≤ 1 then some (((2 : Int), (m.toNat : Int), ([] : List UInt8)), 2) else none) = some ((a, b, x), n) := h
     rw [if_neg k] at e
     cases e
  rw [if_neg k2] at h
  by_cases k3 : c.toNat = 3
  ·rw [if_pos k3] at h
   cases t with
   | nil => cases h
   | cons m u =>
    have e : (if m.toNat ≤ 100 ∧ m.toNat ≤ u.length then some (((3 : Int), (0 : Int), u.take m.toNat), 2 + m.toNat) else none) = some ((a, b, x), n) := h
    by_cases k : m.toNat ≤ 100 ∧ m.toNat ≤ u.length
    ·rw [if_pos k] at e
     obtain ⟨⟨rfl, rfl, rfl⟩, rfl⟩ : ((3 : Int) = a ∧ (0 : Int) = b ∧ u.take m.toNat = x) ∧ 2 + m.toNat = n := by simpa using e
     have hl : (u.take m.toNat).length = m.toNat := by rw [List.length_take]; omega
     refine ⟨?_, by simp; omega, by omega, by omega⟩
     unfold encV okV
     rw [if_pos (by rw [hl]; simp; omega), if_neg (by decide), if_neg (by decide), if_pos rfl, hl, u8_of, cEq 3 k3, show 2 + m.toNat = m.toNat + 1 + 1 by omega]
     rfl
    ·rw [if_neg k] at e
     cases e
  rw [if_neg k3] at h
  by_cases k0 : c.toNat = 0
  ·rw [if_pos k0] at h
   obtain ⟨⟨rfl, rfl, rfl⟩, rfl⟩ : (0 = a ∧ 0 = b ∧ [] = x) ∧ 1 = n := by simpa using h
   refine ⟨?_, by simp, by decide, by simp⟩
   rw [cEq 0 k0]
   rfl
  ·rw [if_neg k0] at h
   cases h
def pRow : Nat → List UInt8 → Option (List S50 × Nat)
 | 0, _ => some ([], 0)
 | m + 1, l => (getV l).bind fun p => (pRow m (l.drop p.2)).bind fun q => some (⟨p.1.1, p.1.2.1, mkB p.1.2.2⟩ :: q.1, p.2 + q.2)
def pBag (w : Nat) : Nat → List UInt8 → Option (List S47)
 | _, [] => some []
 | 0, _ :: _ => none
 | f + 1, c :: t => (getV (c :: t)).bind fun p => if p.1.1 = 1 then ((pRow w ((c :: t).drop p.2)).bind fun q => (pBag w f ((c :: t).drop (p.2 + q.2))).bind fun cs => some (⟨q.1, p.1.2.1⟩ :: cs)) else none
theorem pBag_step (w f : Nat) (l : List UInt8) (h : l ≠ []) : pBag w (f + 1) l = (getV l).bind fun p => if p.1.1 = 1 then ((pRow w (l.drop p.2)).bind fun q => (pBag w f (l.drop (p.2 + q.2))).bind fun cs => some (⟨q.1, p.1.2.1⟩ :: cs)) else none := by
 cases l with
 | nil => exact absurd rfl h
 | cons c t => rfl
theorem getV_one {l : List UInt8} {b : Int} {x : List UInt8} {n : Nat} (h : getV l = some ((1, b, x), n)) : x = [] := by
 cases l with
 | nil => cases h
 | cons c t =>
  rw [getV_cons] at h
  by_cases k1 : c.toNat = 1
  ·rw [if_pos k1] at h
   by_cases k : 8 ≤ t.length
   ·rw [if_pos k] at h
    simp at h
    exact h.1.2
   ·rw [if_neg k] at h
    cases h
  rw [if_neg k1] at h
  by_cases k2 : c.toNat = 2
  ·rw [if_pos k2] at h
   cases t with
   | nil => cases h
   | cons m r =>
    have e : (if m.toNat ≤ 1 then some (((2 : Int), (m.toNat : Int), ([] : List UInt8)), 2) else none) = some ((1, b, x), n) := h
    by_cases k : m.toNat ≤ 1
    ·rw [if_pos k] at e; simp at e
    ·rw [if_neg k] at e; cases e
  rw [if_neg k2] at h
  by_cases k3 : c.toNat = 3
  ·rw [if_pos k3] at h
   cases t with
   | nil => cases h
   | cons m u =>
    have e : (if m.toNat ≤ 100 ∧ m.toNat ≤ u.length then some (((3 : Int), (0 : Int), u.take m.toNat), 2 + m.toNat) else none) = some ((1, b, x), n) := h
    by_cases k : m.toNat ≤ 100 ∧ m.toNat ≤ u.length
    ·rw [if_pos k] at e; simp at e
    ·rw [if_neg k] at e; cases e
  rw [if_neg k3] at h
  by_cases k0 : c.toNat = 0
  ·rw [if_pos k0] at h
   simp at h
  ·rw [if_neg k0] at h
   cases h
theorem pRow_can : ∀ (m : Nat) (l : List UInt8) (vs : List S50) (n : Nat), pRow m l = some (vs, n) → vs.flatMap encX = l.take n ∧ n ≤ l.length ∧ vs.length = m
 | 0, l, vs, n, h => by
  obtain ⟨rfl, rfl⟩ : [] = vs ∧ 0 = n := by simpa [pRow] using h
  simp
 | m + 1, l, vs, n, h => by
  obtain ⟨⟨⟨a, b, x⟩, n1⟩, h1, h⟩ := Option.bind_eq_some_iff.1 h
  obtain ⟨⟨vs', n2⟩, h2, h⟩ := Option.bind_eq_some_iff.1 h
  obtain ⟨rfl, rfl⟩ : ((⟨a, b, mkB x⟩ : S50) :: vs') = vs ∧ n1 + n2 = n := by simpa using h
  obtain ⟨c1, c2, c3, c4⟩ := getV_can _ _ _ _ _ h1
  obtain ⟨d1, d2, d3⟩ := pRow_can m _ _ _ h2
  rw [List.length_drop] at d2
  refine ⟨?_, by show n1 + n2 ≤ l.length; omega, by rw [List.length_cons, d3]⟩
  rw [List.flatMap_cons, d1]
  show encV a b (mkB x).data.toList ++ _ = _
  rw [mkB_data, c1, List.take_add]
theorem pBag_can (w : Nat) : ∀ (f : Nat) (l : List UInt8) (cs : List S47), pBag w f l = some cs → cs.flatMap encC = l
 | 0, [], cs, h => by
  obtain rfl : [] = cs := by simpa [pBag] using h
  rfl
 | 0, c :: t, cs, h => by cases h
 | f + 1, [], cs, h => by
  obtain rfl : [] = cs := by simpa [pBag] using h
  rfl
 | f + 1, c :: t, cs, h => by
  rw [pBag_step w f (c :: t) (by simp)] at h
  obtain ⟨⟨⟨a, b, x⟩, n1⟩, h1, h⟩ := Option.bind_eq_some_iff.1 h
  by_cases ha : a = 1
  case neg =>
   have h' : (none : Option (List S47)) = some cs := by rw [← h]; exact (if_neg ha).symm
   cases h'
  subst ha
  replace h := (if_pos rfl).symm.trans h
  obtain ⟨⟨vs, n2⟩, h2, h⟩ := Option.bind_eq_some_iff.1 h
  obtain ⟨cs', h3, h⟩ := Option.bind_eq_some_iff.1 h
  obtain rfl : ((⟨vs, b⟩ : S47) :: cs') = cs := by simpa using h
  obtain ⟨c1, c2, c3, c4⟩ := getV_can _ _ _ _ _ h1
  obtain rfl := getV_one h1
  obtain ⟨d1, d2, d3⟩ := pRow_can w _ _ _ h2
  have e3 := pBag_can w f _ _ h3
  rw [List.flatMap_cons, e3]
  show (encV 1 b [] ++ vs.flatMap encX) ++ _ = _
  rw [c1, d1, List.append_assoc]
  conv => rhs; rw [← List.take_append_drop n1 (c :: t)]
  congr 1
  conv => rhs; rw [← List.take_append_drop n2 ((c :: t).drop n1)]
  rw [List.drop_drop]
theorem encV_pos {a b : Int} {s : List UInt8} (h : okV a b s = true) : 0 < (encV a b s).length := by
 unfold encV
 rw [if_pos h]
 by_cases h1 : a = 1
 ·rw [if_pos h1]; simp
 rw [if_neg h1]
 by_cases h2 : a = 2
 ·rw [if_pos h2]; simp
 rw [if_neg h2]
 by_cases h3 : a = 3
 ·rw [if_pos h3]; simp
 ·rw [if_neg h3]; simp
def okX (x : S50) : Prop := okV x.f0 x.f1 x.f2.data.toList = true ∧ -9223372036854775808 ≤ x.f1 ∧ x.f1 ≤ 9223372036854775807
theorem pRow_enc : ∀ (vs : List S50) (t : List UInt8), (∀ v ∈ vs, okX v) → pRow vs.length (vs.flatMap encX ++ t) = some (vs, (vs.flatMap encX).length)
 | [], t, _ => rfl
 | v :: vs, t, h => by
  obtain ⟨h1, h2, h3⟩ := h v (by simp)
  have ih := pRow_enc vs t fun y hy => h y (by simp [hy])
  rw [List.flatMap_cons, List.length_cons, List.append_assoc]
  show (getV (encX v ++ (vs.flatMap encX ++ t))).bind _ = _
  have e := getV_enc v.f0 v.f1 v.f2.data.toList (vs.flatMap encX ++ t) h1 h2 h3
  rw [show encX v = encV v.f0 v.f1 v.f2.data.toList from rfl, e, Option.bind_some]
  show (pRow vs.length (List.drop (encV v.f0 v.f1 v.f2.data.toList).length (encV v.f0 v.f1 v.f2.data.toList ++ (vs.flatMap encX ++ t)))).bind _ = _
  rw [List.drop_left, ih, Option.bind_some, mkB_of, List.length_append]
theorem pBag_enc (w : Nat) : ∀ (cs : List S47) (f : Nat), (cs.flatMap encC).length ≤ f → (∀ c ∈ cs, c.f0.length = w ∧ (∀ v ∈ c.f0, okX v) ∧ -9223372036854775808 ≤ c.f1 ∧ c.f1 ≤ 9223372036854775807) → pBag w f (cs.flatMap encC) = some cs
 | [], f, _, _ => by cases f <;> rfl
 | c :: cs, f, hf, h => by
  obtain ⟨h1, h2, h3, h4⟩ := h c (by simp)
  have ok1 : okV 1 c.f1 [] = true := rfl
  have e1 := encV_pos ok1
  rw [List.flatMap_cons] at hf ⊢
  have hl : (encC c).length = (encV 1 c.f1 []).length + (c.f0.flatMap encX).length := by unfold encC; rw [List.length_append]
  rw [List.length_append] at hf
  obtain ⟨f, rfl⟩ : ∃ g, f = g + 1 := ⟨f - 1, by omega⟩
  have ih := pBag_enc w cs f (by omega) fun y hy => h y (by simp [hy])
  have hne : encC c ++ cs.flatMap encC ≠ [] := by
   intro g
   have := congrArg List.length g
   rw [List.length_append, List.length_nil] at this
   omega
  rw [pBag_step w f _ hne]
  have ec : encC c ++ cs.flatMap encC = encV 1 c.f1 [] ++ (c.f0.flatMap encX ++ cs.flatMap encC) := by unfold encC; rw [List.append_assoc]
  rw [ec, getV_enc 1 c.f1 [] _ ok1 h3 h4, Option.bind_some]
  show (if (1 : Int) = 1 then _ else _) = _
  rw [if_pos rfl]
  show (pRow w (List.drop (encV 1 c.f1 []).length (encV 1 c.f1 [] ++ (c.f0.flatMap encX ++ cs.flatMap encC)))).bind _ = _
  have er := pRow_enc c.f0 (cs.flatMap encC) h2
  rw [h1] at er
  rw [List.drop_left, er, Option.bind_some]
  show (pBag w f (List.drop ((encV 1 c.f1 []).length + (c.f0.flatMap encX).length) (encV 1 c.f1 [] ++ (c.f0.flatMap encX ++ cs.flatMap encC)))).bind _ = _
  rw [← List.drop_drop, List.drop_left, List.drop_left, ih, Option.bind_some]
open Classical in
noncomputable def resG (w : Nat) (o : Option (List S47)) : Int × List S47 × Bool := match o with
 | some cs => if BagP (w : Int) cs then ((w : Int), cs, true) else (0, [], false)
 | none => (0, [], false)
theorem gb_l0 (s : ByteArray) (i : Int) (w : Int) (rows : List S47) (q : Bool) (k : Nat) : impl_GetBag.l0 (k + 1) s s i q w rows = if q = true then impl_GetBag.j2 k s false s i q w rows else impl_GetBag.j2 k s (decide (i < (s.size : Int))) s i q w rows := rfl
theorem gb_bad (s : ByteArray) (i : Int) (w : Int) (rows : List S47) : Ev (fun k => impl_GetBag.l0 k s s i true w rows) (0, [], false, s, i, true) := by
 have hj := fun (q p : Bool) (k : Nat) => (show impl_GetBag.j2 (k + 1) s q s i p w rows = ite (q = true) _ (ite (p = true) (some (0, [], false, s, i, p)) _) from rfl)
 exact Ev.step (fun k => (gb_l0 s i w rows true k).trans (if_pos rfl)) (Ev.step (fun k => (hj false true k).trans ((if_neg Bool.false_ne_true).trans (if_pos rfl))) (ev_some fun _ => rfl))
theorem gb_badrow (s : ByteArray) (i : Int) (w : Nat) (rows : List S47) (b : Int) (hr : rows.length ≤ 1048576) (hw : w ≤ 12) :
  ∀ (n j : Nat) (vs : List S50), w - j = n → j ≤ w → vs.length = j → Ev (fun k => impl_GetBag.l1 k s (w : Int) (j : Int) s i true (w : Int) rows vs b) (0, [], false, s, i, true) := by
 intro n
 induction n with
 | zero =>
  intro j vs h1 h2 h3
  exact Ev.step (fun k => rfl) (ev_if_neg (by omega) (ev_if_pos (by omega) (gb_bad s i w _)))
 | succ n ih =>
  intro j vs h1 h2 h3
  refine Ev.step (fun k => rfl) (ev_if_pos (by omega) (ev_bind0 (value_bad s i) (ev_if_pos (by omega) ?_)))
  rw [wrap_succ (show j < w by omega) (by omega)]
  exact ih (j + 1) _ (by omega) (by omega) (by rw [List.length_append, h3]; rfl)
theorem gb_row (s : ByteArray) (hs : s.size ≤ 1048576) (w : Nat) (hw : w ≤ 12) (rows : List S47) (b : Int) (hr : rows.length ≤ 1048576) :
  ∀ (m j i : Nat) (vs : List S50), w - j = m → j ≤ w → vs.length = j → i ≤ s.size →
   (∀ vs' n, pRow m (s.data.toList.drop i) = some (vs', n) → ∀ r, Ev (fun k => impl_GetBag.l0 k s s ((i + n : Nat) : Int) false (w : Int) (rows ++ [⟨vs ++ vs', b⟩])) r → Ev (fun k => impl_GetBag.l1 k s (w : Int) (j : Int) s (i : Int) false (w : Int) rows vs b) r) ∧
   (pRow m (s.data.toList.drop i) = none → ∃ q, Ev (fun k => impl_GetBag.l1 k s (w : Int) (j : Int) s (i : Int) false (w : Int) rows vs b) (0, [], false, q)) := by
 intro m
 induction m with
 | zero =>
  intro j i vs h1 h2 h3 h4
  refine ⟨fun vs' n h r hr' => ?_, fun h => by cases h⟩
  obtain ⟨rfl, rfl⟩ : [] = vs' ∧ 0 = n := by simpa [pRow] using h
  rw [List.append_nil] at hr'
  exact Ev.step (fun k => rfl) (ev_if_neg (by omega) (ev_if_pos (by omega) hr'))
 | succ m ih =>
  intro j i vs h1 h2 h3 h4
  have hj : j < w := by omega
  rcases value_is s i h4 (by omega) with ⟨a, c, x, n1, g1, g2, g3⟩ | ⟨g1, a, c, x, j', g2, g3⟩
  ·obtain ⟨i1, i2⟩ := ih (j + 1) (i + n1) (vs ++ [⟨a, c, mkB x⟩]) (by omega) (by omega) (by rw [List.length_append, h3]; rfl) g3
   have step : ∀ r, Ev (fun k => impl_GetBag.l1 k s (w : Int) ((j + 1 : Nat) : Int) s ((i + n1 : Nat) : Int) false (w : Int) rows (vs ++ [⟨a, c, mkB x⟩]) b) r → Ev (fun k => impl_GetBag.l1 k s (w : Int) (j : Int) s (i : Int) false (w : Int) rows vs b) r := fun r hr' => by
    refine Ev.step (fun k => rfl) (ev_if_pos (by omega) (ev_bind0 g2 (ev_if_pos (by omega) ?_)))
    rw [wrap_succ hj (by omega)]
    exact hr'
   have e : pRow (m + 1) (s.data.toList.drop i) = (pRow m (s.data.toList.drop (i + n1))).bind fun q => some (⟨a, c, mkB x⟩ :: q.1, n1 + q.2) := by
    show (getV (s.data.toList.drop i)).bind _ = _
    rw [g1, Option.bind_some, List.drop_drop]
   refine ⟨fun vs' n h r hr' => ?_, fun h => ?_⟩
   ·rw [e] at h
    obtain ⟨⟨vs2, n2⟩, h2', h⟩ := Option.bind_eq_some_iff.1 h
    obtain ⟨rfl, rfl⟩ : ((⟨a, c, mkB x⟩ : S50) :: vs2) = vs' ∧ n1 + n2 = n := by simpa using h
    refine step _ (i1 vs2 n2 h2' r ?_)
    rw [List.append_assoc, List.singleton_append, show i + n1 + n2 = i + (n1 + n2) by omega]
    exact hr'
   ·rw [e] at h
    cases hp : pRow m (s.data.toList.drop (i + n1)) with
    | some p => rw [hp] at h; cases h
    | none =>
     obtain ⟨q, hq⟩ := i2 hp
     exact ⟨q, step _ hq⟩
  ·have e : pRow (m + 1) (s.data.toList.drop i) = none := by
    show (getV (s.data.toList.drop i)).bind _ = _
    rw [g1, Option.bind_none]
   refine ⟨fun vs' n h r hr' => (by rw [e] at h; cases h), fun _ => ⟨(s, (j' : Int), true), Ev.step (fun k => rfl) (ev_if_pos (by omega) (ev_bind0 g2 (ev_if_pos (by omega) ?_)))⟩⟩
   rw [wrap_succ hj (by omega)]
   exact gb_badrow s j' w rows b hr hw _ (j + 1) _ rfl (by omega) (by rw [List.length_append, h3]; rfl)
open Classical in
theorem gb_loop (s : ByteArray) (hs : s.size ≤ 1048576) (w : Nat) (hw : w ≤ 12) :
  ∀ (f i : Nat) (rows : List S47), s.size - i ≤ f → i ≤ s.size → rows.length ≤ i → ∃ q, Ev (fun k => impl_GetBag.l0 k s s (i : Int) false (w : Int) rows) ((resG w ((pBag w f (s.data.toList.drop i)).map (rows ++ ·))).1, (resG w ((pBag w f (s.data.toList.drop i)).map (rows ++ ·))).2.1, (resG w ((pBag w f (s.data.toList.drop i)).map (rows ++ ·))).2.2, q) := by
 have hsz := size_data s
 have hj := fun (i : Int) (rows : List S47) (q p : Bool) (k : Nat) => (show impl_GetBag.j2 (k + 1) s q s i p (w : Int) rows = ite (q = true) _ (ite (p = true) (some (0, [], false, s, i, p)) ((impl_BagOk.f k (w : Int) rows).bind fun t => ite (t = true) (some ((w : Int), rows, true, s, i, p)) (some (0, [], false, s, i, p)))) from rfl)
 have fin : ∀ (i : Nat) (rows : List S47), i = s.size → rows.length ≤ i → Ev (fun k => impl_GetBag.l0 k s s (i : Int) false (w : Int) rows) ((resG w (some rows)).1, (resG w (some rows)).2.1, (resG w (some rows)).2.2, s, (i : Int), false) := fun i rows h1 h2 => by
  refine Ev.step (fun k => (gb_l0 s i w rows false k).trans (if_neg Bool.false_ne_true)) ?_
  rw [decide_eq_false (show ¬ (i : Int) < (s.size : Int) by omega)]
  refine Ev.step (fun k => (hj i rows false false k).trans ((if_neg Bool.false_ne_true).trans (if_neg Bool.false_ne_true))) (Ev.bind (impl_bagOk_is (w : Int) rows (by omega) (decide (BagP (w : Int) rows)) decide_eq_true_iff) ?_)
  unfold resG
  by_cases hb : BagP (w : Int) rows
  ·rw [decide_eq_true hb]
   exact ev_if_pos rfl (ev_some fun _ => by simp [hb])
  ·rw [decide_eq_false hb]
   exact ev_if_neg (by simp) (ev_some fun _ => by simp [hb])
 intro f
 induction f with
 | zero =>
  intro i rows h1 h2 h3
  have hd : s.data.toList.drop i = [] := List.drop_of_length_le (by omega)
  rw [hd]
  have := fin i rows (by omega) h3
  refine ⟨(s, (i : Int), false), ?_⟩
  ·show Ev _ ((resG w (some (rows ++ []))).1, (resG w (some (rows ++ []))).2.1, (resG w (some (rows ++ []))).2.2, _)
   rw [List.append_nil]
   exact this
 | succ f ih =>
  intro i rows h1 h2 h3
  by_cases hi : i = s.size
  ·have hd : s.data.toList.drop i = [] := List.drop_of_length_le (by omega)
   rw [hd]
   have := fin i rows hi h3
   refine ⟨(s, (i : Int), false), ?_⟩
   ·show Ev _ ((resG w (some (rows ++ []))).1, (resG w (some (rows ++ []))).2.1, (resG w (some (rows ++ []))).2.2, _)
    rw [List.append_nil]
    exact this
  have hlt : i < s.size := by omega
  have hne : s.data.toList.drop i ≠ [] := by
   intro g
   have := congrArg List.length g
   rw [List.length_drop, List.length_nil] at this
   omega
  rw [pBag_step w f _ hne]
  have hj1 := fun (q : Bool) (k : Nat) => (show impl_GetBag.j2 (k + 1) s q s (i : Int) false (w : Int) rows = ite (q = true) ((impl_reader_value.f s (i : Int) false).bind fun bt => ite (bt.1 = 1) (impl_GetBag.l1 k s (w : Int) 0 bt.2.2.2.1 bt.2.2.2.2.1 bt.2.2.2.2.2 (w : Int) rows [] bt.2.1) (some (0, [], false, bt.2.2.2.1, bt.2.2.2.2.1, bt.2.2.2.2.2))) _ from rfl)
  have top : ∀ r, Ev (fun k => (impl_reader_value.f s (i : Int) false).bind fun bt => ite (bt.1 = 1) (impl_GetBag.l1 k s (w : Int) 0 bt.2.2.2.1 bt.2.2.2.2.1 bt.2.2.2.2.2 (w : Int) rows [] bt.2.1) (some (0, [], false, bt.2.2.2.1, bt.2.2.2.2.1, bt.2.2.2.2.2))) r → Ev (fun k => impl_GetBag.l0 k s s (i : Int) false (w : Int) rows) r := fun r hr => by
   refine Ev.step (fun k => (gb_l0 s i w rows false k).trans (if_neg Bool.false_ne_true)) ?_
   rw [decide_eq_true (show (i : Int) < (s.size : Int) by omega)]
   exact Ev.step (fun k => (hj1 true k).trans (if_pos rfl)) hr
  rcases value_is s i h2 (by omega) with ⟨a, c, x, n1, g1, g2, g3⟩ | ⟨g1, a, c, x, j', g2, g3⟩
  ·rw [g1, Option.bind_some]
   by_cases ha : a = 1
   case neg =>
    refine ⟨(s, ((i + n1 : Nat) : Int), false), ?_⟩
    show Ev _ ((resG w (Option.map _ (ite (a = 1) _ none))).1, (resG w (Option.map _ (ite (a = 1) _ none))).2.1, (resG w (Option.map _ (ite (a = 1) _ none))).2.2, _)
    rw [if_neg ha]
    exact top _ (ev_bind0 g2 (ev_if_neg ha (ev_some fun _ => rfl)))
   subst ha
   have hpos := (getV_can _ _ _ _ _ g1).2.2.1
   obtain ⟨r1, r2⟩ := gb_row s hs w hw rows c (by omega) w 0 (i + n1) [] (by omega) (by omega) rfl g3
   show ∃ q, Ev _ ((resG w (Option.map _ (ite ((1 : Int) = 1) _ none))).1, (resG w (Option.map _ (ite ((1 : Int) = 1) _ none))).2.1, (resG w (Option.map _ (ite ((1 : Int) = 1) _ none))).2.2, q)
   rw [if_pos rfl, List.drop_drop]
   cases hp : pRow w (s.data.toList.drop (i + n1)) with
   | none =>
    obtain ⟨q, hq⟩ := r2 hp
    exact ⟨q, top _ (ev_bind0 g2 (ev_if_pos rfl hq))⟩
   | some p =>
    obtain ⟨vs, n2⟩ := p
    have cn := (pRow_can w _ _ _ hp).2.1
    rw [List.length_drop] at cn
    obtain ⟨q, hq⟩ := ih (i + n1 + n2) (rows ++ [⟨vs, c⟩]) (by omega) (by omega) (by rw [List.length_append]; show rows.length + 1 ≤ _; omega)
    have h0 := r1 vs n2 hp _ hq
    refine ⟨q, top _ (ev_bind0 g2 (ev_if_pos rfl ?_))⟩
    rw [Option.bind_some, List.drop_drop, show i + (n1 + n2) = i + n1 + n2 by omega]
    have em : ∀ o : Option (List S47), (o.bind fun cs => some ((⟨vs, c⟩ : S47) :: cs)).map (rows ++ ·) = o.map ((rows ++ [⟨vs, c⟩]) ++ ·) := fun o => by cases o <;> simp
    rw [em]
    exact h0
  ·rw [g1, Option.bind_none]
   by_cases ha : a = 1
   ·subst ha
    exact ⟨_, top _ (ev_bind0 g2 (ev_if_pos rfl (gb_badrow s j' w rows c (by omega) hw _ 0 [] rfl (by omega) rfl)))⟩
   ·exact ⟨(s, (j' : Int), true), top _ (ev_bind0 g2 (ev_if_neg ha (ev_some fun _ => rfl)))⟩
theorem getV_bound {l : List UInt8} {a b : Int} {x : List UInt8} {n : Nat} (h : getV l = some ((a, b, x), n)) : -9223372036854775808 ≤ b ∧ b ≤ 9223372036854775807 := by
 cases l with
 | nil => cases h
 | cons c t =>
  rw [getV_cons] at h
  by_cases k1 : c.toNat = 1
  ·rw [if_pos k1] at h
   by_cases k : 8 ≤ t.length
   ·rw [if_pos k] at h
    obtain ⟨⟨_, rfl, _⟩, _⟩ : ((1 : Int) = a ∧ wrap64 (beN (t.take 8) : Int) = b ∧ [] = x) ∧ 9 = n := by simpa using h
    unfold wrap64
    omega
   ·rw [if_neg k] at h
    cases h
  rw [if_neg k1] at h
  by_cases k2 : c.toNat = 2
  ·rw [if_pos k2] at h
   cases t with
   | nil => cases h
   | cons m r =>
    have e : (if m.toNat ≤ 1 then some (((2 : Int), (m.toNat : Int), ([] : List UInt8)), 2) else none) = some ((a, b, x), n) := h
    by_cases k : m.toNat ≤ 1
    ·rw [if_pos k] at e
     obtain ⟨⟨_, rfl, _⟩, _⟩ : ((2 : Int) = a ∧ (m.toNat : Int) = b ∧ [] = x) ∧ 2 = n := by simpa using e
     omega
    ·rw [if_neg k] at e; cases e
  rw [if_neg k2] at h
  by_cases k3 : c.toNat = 3
  ·rw [if_pos k3] at h
   cases t with
   | nil => cases h
   | cons m u =>
    have e : (if m.toNat ≤ 100 ∧ m.toNat ≤ u.length then some (((3 : Int), (0 : Int), u.take m.toNat), 2 + m.toNat) else none) = some ((a, b, x), n) := h
    by_cases k : m.toNat ≤ 100 ∧ m.toNat ≤ u.length
    ·rw [if_pos k] at e
     obtain ⟨⟨_, rfl, _⟩, _⟩ : ((3 : Int) = a ∧ (0 : Int) = b ∧ u.take m.toNat = x) ∧ 2 + m.toNat = n := by simpa using e
     omega
    ·rw [if_neg k] at e; cases e
  rw [if_neg k3] at h
  by_cases k0 : c.toNat = 0
  ·rw [if_pos k0] at h
   obtain ⟨⟨_, rfl, _⟩, _⟩ : ((0 : Int) = a ∧ (0 : Int) = b ∧ [] = x) ∧ 1 = n := by simpa using h
   omega
  ·rw [if_neg k0] at h
   cases h
theorem getAt_nat {s : ByteArray} {i : Nat} (hi : i ≤ s.size) : getAt s (i : Int) = packV i (getV (s.data.toList.drop i)) := by
 unfold getAt
 rw [if_pos ⟨by omega, by omega⟩, Int.toNat_natCast]
def bX (x : S50) : Prop := -9223372036854775808 ≤ x.f1 ∧ x.f1 ≤ 9223372036854775807
def bC (w : Nat) (c : S47) : Prop := c.f0.length = w ∧ (∀ v ∈ c.f0, bX v) ∧ -9223372036854775808 ≤ c.f1 ∧ c.f1 ≤ 9223372036854775807
theorem sg_stop (s : ByteArray) (j w : Int) (rows : List S47) (acc : List S50) (b : Int) : Ev (fun k => spec_GetBag.l1 k s (-1) j w rows acc b) (0, [], false) := by
 by_cases h : j < w
 ·exact Ev.step (fun k => rfl) (ev_if_pos h (ev_if_neg (by omega) (ev_if_pos (by omega) (ev_some fun _ => rfl))))
 ·exact Ev.step (fun k => rfl) (ev_if_neg h (ev_if_pos (by omega) (ev_some fun _ => rfl)))
theorem sg_row_any (s : ByteArray) (hs : s.size ≤ 1048576) (w : Nat) (hw : w ≤ 12) (rows : List S47) (hr : rows.length ≤ 1048576) (b : Int) (G : Int × List S47 × Bool → Prop) (hG : G (0, [], false)) (i0 : Nat)
  (hF : ∀ (i' : Nat) (acc' : List S50), i' ≤ s.size → i0 ≤ i' → acc'.length = w → (∀ v ∈ acc', bX v) → ∃ r, Ev (fun k => spec_GetBag.l0 k s (i' : Int) (w : Int) (rows ++ [⟨acc', b⟩])) r ∧ G r) :
  ∀ (m j i : Nat) (acc : List S50), w - j = m → j ≤ w → acc.length = j → i ≤ s.size → i0 ≤ i → (∀ v ∈ acc, bX v) → ∃ r, Ev (fun k => spec_GetBag.l1 k s (i : Int) (j : Int) (w : Int) rows acc b) r ∧ G r := by
 intro m
 induction m with
 | zero =>
  intro j i acc h1 h2 h3 h4 h5 h6
  obtain ⟨r, hr', hg⟩ := hF i acc h4 h5 (by omega) h6
  exact ⟨r, Ev.step (fun k => rfl) (ev_if_neg (by omega) (ev_if_neg (by omega) (ev_if_pos (by omega) hr'))), hg⟩
 | succ m ih =>
  intro j i acc h1 h2 h3 h4 h5 h6
  have hj : j < w := by omega
  have sv := specGetValue_is s (i : Int) (by omega)
  rw [getAt_nat h4] at sv
  cases hv : getV (s.data.toList.drop i) with
  | none =>
   rw [hv] at sv
   exact ⟨_, Ev.step (fun k => rfl) (ev_if_pos (by omega) (ev_if_pos (by omega) (Ev.bind sv (ev_if_pos (by omega) (sg_stop s _ _ rows _ b))))), hG⟩
  | some p =>
   obtain ⟨⟨a, c, x⟩, n⟩ := p
   rw [hv] at sv
   have cn := (getV_can _ _ _ _ _ hv).2.1
   rw [List.length_drop, ← size_data] at cn
   have gb := getV_bound hv
   obtain ⟨r, hr', hg⟩ := ih (j + 1) (i + n) (acc ++ [⟨a, c, mkB x⟩]) (by omega) (by omega) (by rw [List.length_append, h3]; rfl) (by omega) (by omega) (fun v hv' => by
    rcases List.mem_append.1 hv' with hv' | hv'
    ·exact h6 v hv'
    ·rw [List.mem_singleton.1 hv']; exact gb)
   refine ⟨r, Ev.step (fun k => rfl) (ev_if_pos (by omega) (ev_if_pos (by omega) (Ev.bind sv (ev_if_pos (by omega) ?_)))), hg⟩
   rw [wrap_succ hj (by omega)]
   exact hr'
def finG (s : ByteArray) (w : Nat) (cs : List S47) (r : Int × List S47 × Bool) : Prop := (BagP (w : Int) cs ∧ encB (w : Int) cs = s.data.toList ∧ r = ((w : Int), cs, true)) ∨ (¬ (BagP (w : Int) cs ∧ encB (w : Int) cs = s.data.toList) ∧ r = (0, [], false))
theorem sg_fin (s : ByteArray) (h0 : 0 < s.size) (w : Nat) (x5 : Int) (cs : List S47) (hn : cs.length ≤ 1048576) (hx : ∀ c ∈ cs, c.f0.length ≤ 1048576) : ∃ r, Ev (fun k => spec_GetBag.j2 k s x5 false (w : Int) cs) r ∧ finG s w cs r := by
 have pb := specPutBag_is (w : Int) cs hn hx
 have hj := fun (q : Bool) (k : Nat) => (show spec_GetBag.j2 (k + 1) s x5 q (w : Int) cs = ite (q = true) _ ((spec_PutBag.f k (w : Int) cs).bind fun t => ite (t.toList = s.toList) (some ((w : Int), cs, true)) (some (0, [], false))) from rfl)
 by_cases hb : BagP (w : Int) cs
 ·rw [if_pos hb] at pb
  by_cases he : encB (w : Int) cs = s.data.toList
  ·exact ⟨_, Ev.step (fun k => (hj false k).trans (if_neg Bool.false_ne_true)) (Ev.bind pb (ev_if_pos (by rw [toList_mkB, toList_data, he]) (ev_some fun _ => rfl))), .inl ⟨hb, he, rfl⟩⟩
  ·exact ⟨_, Ev.step (fun k => (hj false k).trans (if_neg Bool.false_ne_true)) (Ev.bind pb (ev_if_neg (by rw [toList_mkB, toList_data]; exact he) (ev_some fun _ => rfl))), .inr ⟨fun h => he h.2, rfl⟩⟩
 ·rw [if_neg hb] at pb
  refine ⟨_, Ev.step (fun k => (hj false k).trans (if_neg Bool.false_ne_true)) (Ev.bind pb (ev_if_neg ?_ (ev_some fun _ => rfl))), .inr ⟨fun h => hb h.1, rfl⟩⟩
  rw [toList_mkB, toList_data]
  intro g
  rw [size_data, ← g] at h0
  exact absurd h0 (by simp)
theorem sg_any (s : ByteArray) (hs : s.size ≤ 1048576) (h0 : 0 < s.size) (w : Nat) (hw : w ≤ 12) :
  ∀ (f i : Nat) (rows : List S47), s.size - i ≤ f → i ≤ s.size → rows.length ≤ 401 → (∀ c ∈ rows, bC w c) → ∃ r, Ev (fun k => spec_GetBag.l0 k s (i : Int) (w : Int) rows) r ∧ (r = (0, [], false) ∨ ∃ cs, (∀ c ∈ cs, bC w c) ∧ BagP (w : Int) cs ∧ encB (w : Int) cs = s.data.toList ∧ r = ((w : Int), cs, true)) := by
 have hj := fun (i : Nat) (rows : List S47) (q : Bool) (k : Nat) => (show spec_GetBag.j2 (k + 1) s (i : Int) q (w : Int) rows = ite (q = true) ((spec_GetValue.f k s (i : Int)).bind fun bt155 => (spec_GetBag.l1 k s bt155.2.2.2 0 (w : Int) rows ([] : List (S50)) bt155.2.1)) _ from rfl)
 have fin : ∀ (i : Nat) (rows : List S47), rows.length ≤ 401 → (∀ c ∈ rows, bC w c) → ∃ r, Ev (fun k => spec_GetBag.j2 k s (i : Int) false (w : Int) rows) r ∧ (r = (0, [], false) ∨ ∃ cs, (∀ c ∈ cs, bC w c) ∧ BagP (w : Int) cs ∧ encB (w : Int) cs = s.data.toList ∧ r = ((w : Int), cs, true)) := fun i rows h1 h2 => by
  obtain ⟨r, hr, hf⟩ := sg_fin s h0 w (i : Int) rows (by omega) (fun c hc => by have := (h2 c hc).1; omega)
  rcases hf with ⟨g1, g2, g3⟩ | ⟨_, g3⟩
  ·exact ⟨r, hr, .inr ⟨rows, h2, g1, g2, g3⟩⟩
  ·exact ⟨r, hr, .inl g3⟩
 intro f
 induction f with
 | zero =>
  intro i rows h1 h2 h3 h4
  obtain ⟨r, hr, hg⟩ := fin i rows h3 h4
  exact ⟨r, Ev.step (fun k => rfl) (ev_if_neg (by omega) hr), hg⟩
 | succ f ih =>
  intro i rows h1 h2 h3 h4
  by_cases hi : (i : Int) < (s.size : Int)
  case neg =>
   obtain ⟨r, hr, hg⟩ := fin i rows h3 h4
   exact ⟨r, Ev.step (fun k => rfl) (ev_if_neg hi hr), hg⟩
  by_cases hc : (rows.length : Int) ≤ 400
  case neg =>
   obtain ⟨r, hr, hg⟩ := fin i rows h3 h4
   refine ⟨r, Ev.step (fun k => rfl) (ev_if_pos hi ?_), hg⟩
   rw [decide_eq_false hc]
   exact hr
  have top : ∀ r, Ev (fun k => (spec_GetValue.f k s (i : Int)).bind fun bt155 => (spec_GetBag.l1 k s bt155.2.2.2 0 (w : Int) rows ([] : List (S50)) bt155.2.1)) r → Ev (fun k => spec_GetBag.l0 k s (i : Int) (w : Int) rows) r := fun r hr => by
   refine Ev.step (fun k => rfl) (ev_if_pos hi ?_)
   rw [decide_eq_true hc]
   exact Ev.step (fun k => (hj i rows true k).trans (if_pos rfl)) hr
  have sv := specGetValue_is s (i : Int) (by omega)
  rw [getAt_nat h2] at sv
  cases hv : getV (s.data.toList.drop i) with
  | none =>
   rw [hv] at sv
   exact ⟨_, top _ (Ev.bind sv (sg_stop s _ _ rows _ _)), .inl rfl⟩
  | some p =>
   obtain ⟨⟨a, c, x⟩, n⟩ := p
   rw [hv] at sv
   have cn := getV_can _ _ _ _ _ hv
   have cn2 := cn.2.1
   have cn3 := cn.2.2.1
   rw [List.length_drop, ← size_data] at cn2
   have gb := getV_bound hv
   obtain ⟨r, hr, hg⟩ := sg_row_any s hs w hw rows (by omega) c (fun r => r = (0, [], false) ∨ ∃ cs, (∀ c ∈ cs, bC w c) ∧ BagP (w : Int) cs ∧ encB (w : Int) cs = s.data.toList ∧ r = ((w : Int), cs, true)) (.inl rfl) (i + n)
    (fun i' acc' g1 g2 g3 g4 => ih i' (rows ++ [⟨acc', c⟩]) (by omega) g1 (by rw [List.length_append]; show rows.length + 1 ≤ _; omega) (fun y hy => by
     rcases List.mem_append.1 hy with hy | hy
     ·exact h4 y hy
     ·rw [List.mem_singleton.1 hy]; exact ⟨g3, g4, gb⟩)) w 0 (i + n) [] (by omega) (by omega) rfl (by omega) (by omega) (fun v hv' => by cases hv')
   exact ⟨r, top _ (Ev.bind sv hr), hg⟩
theorem sg_row_pos (s : ByteArray) (hs : s.size ≤ 1048576) (w : Nat) (hw : w ≤ 12) (rows : List S47) (hr : rows.length ≤ 1048576) (b : Int) :
  ∀ (m j i : Nat) (acc vs : List S50) (n : Nat), w - j = m → j ≤ w → acc.length = j → i ≤ s.size → pRow m (s.data.toList.drop i) = some (vs, n) →
   ∀ r, Ev (fun k => spec_GetBag.l0 k s ((i + n : Nat) : Int) (w : Int) (rows ++ [⟨acc ++ vs, b⟩])) r → Ev (fun k => spec_GetBag.l1 k s (i : Int) (j : Int) (w : Int) rows acc b) r := by
 intro m
 induction m with
 | zero =>
  intro j i acc vs n h1 h2 h3 h4 h r hr'
  obtain ⟨rfl, rfl⟩ : [] = vs ∧ 0 = n := by simpa [pRow] using h
  rw [List.append_nil] at hr'
  exact Ev.step (fun k => rfl) (ev_if_neg (by omega) (ev_if_neg (by omega) (ev_if_pos (by omega) hr')))
 | succ m ih =>
  intro j i acc vs n h1 h2 h3 h4 h r hr'
  have hj : j < w := by omega
  have sv := specGetValue_is s (i : Int) (by omega)
  rw [getAt_nat h4] at sv
  obtain ⟨⟨⟨a, c, x⟩, n1⟩, g1, h⟩ := Option.bind_eq_some_iff.1 h
  obtain ⟨⟨vs2, n2⟩, g2, h⟩ := Option.bind_eq_some_iff.1 h
  obtain ⟨rfl, rfl⟩ : ((⟨a, c, mkB x⟩ : S50) :: vs2) = vs ∧ n1 + n2 = n := by simpa using h
  rw [g1] at sv
  have cn := (getV_can _ _ _ _ _ g1).2.1
  rw [List.length_drop, ← size_data] at cn
  rw [List.drop_drop] at g2
  refine Ev.step (fun k => rfl) (ev_if_pos (by omega) (ev_if_pos (by omega) (Ev.bind sv (ev_if_pos (by omega) ?_))))
  rw [wrap_succ hj (by omega)]
  refine ih (j + 1) (i + n1) (acc ++ [⟨a, c, mkB x⟩]) vs2 n2 (by omega) (by omega) (by rw [List.length_append, h3]; rfl) (by omega) g2 r ?_
  rw [List.append_assoc, List.singleton_append, show i + n1 + n2 = i + (n1 + n2) by omega]
  exact hr'
theorem sg_pos (s : ByteArray) (hs : s.size ≤ 1048576) (w : Nat) (hw : w ≤ 12) :
  ∀ (f i : Nat) (rows cs : List S47), i ≤ s.size → pBag w f (s.data.toList.drop i) = some cs → rows.length + cs.length ≤ 400 →
   ∀ r, Ev (fun k => spec_GetBag.j2 k s (s.size : Int) false (w : Int) (rows ++ cs)) r → Ev (fun k => spec_GetBag.l0 k s (i : Int) (w : Int) rows) r := by
 have hj := fun (i : Nat) (rows : List S47) (q : Bool) (k : Nat) => (show spec_GetBag.j2 (k + 1) s (i : Int) q (w : Int) rows = ite (q = true) ((spec_GetValue.f k s (i : Int)).bind fun bt155 => (spec_GetBag.l1 k s bt155.2.2.2 0 (w : Int) rows ([] : List (S50)) bt155.2.1)) _ from rfl)
 have hsz := size_data s
 have stop : ∀ (i : Nat) (rows cs : List S47), i ≤ s.size → s.data.toList.drop i = [] → cs = [] → ∀ r, Ev (fun k => spec_GetBag.j2 k s (s.size : Int) false (w : Int) (rows ++ cs)) r → Ev (fun k => spec_GetBag.l0 k s (i : Int) (w : Int) rows) r := fun i rows cs h1 hd hc r hr => by
  have := congrArg List.length hd
  rw [List.length_drop, List.length_nil] at this
  obtain rfl : i = s.size := by omega
  subst hc
  rw [List.append_nil] at hr
  exact Ev.step (fun k => rfl) (ev_if_neg (by omega) hr)
 intro f
 induction f with
 | zero =>
  intro i rows cs h1 h2 h3 r hr
  cases hd : s.data.toList.drop i with
  | nil =>
   rw [hd] at h2
   exact stop i rows cs h1 hd (by simpa [pBag] using h2.symm) r hr
  | cons c t => rw [hd] at h2; cases h2
 | succ f ih =>
  intro i rows cs h1 h2 h3 r hr
  by_cases hd : s.data.toList.drop i = []
  ·rw [hd] at h2
   exact stop i rows cs h1 hd (by simpa [pBag] using h2.symm) r hr
  have hlt : i < s.size := by
   rcases (show i < s.size ∨ s.size ≤ i by omega) with g | g
   ·exact g
   ·exact absurd (List.drop_of_length_le (by omega)) hd
  rw [pBag_step w f _ hd] at h2
  have sv := specGetValue_is s (i : Int) (by omega)
  rw [getAt_nat h1] at sv
  obtain ⟨⟨⟨a, b, x⟩, n1⟩, g1, h⟩ := Option.bind_eq_some_iff.1 h2
  by_cases ha : a = 1
  case neg =>
   have h' : (none : Option (List S47)) = some cs := by rw [← h]; exact (if_neg ha).symm
   cases h'
  subst ha
  replace h := (if_pos rfl).symm.trans h
  obtain ⟨⟨vs, n2⟩, g2, h⟩ := Option.bind_eq_some_iff.1 h
  obtain ⟨cs', g3, h⟩ := Option.bind_eq_some_iff.1 h
  obtain rfl : ((⟨vs, b⟩ : S47) :: cs') = cs := by simpa using h
  rw [g1] at sv
  have cn := (getV_can _ _ _ _ _ g1).2.1
  rw [List.length_drop, ← hsz] at cn
  have cr := (pRow_can w _ _ _ g2).2.1
  rw [List.length_drop, List.length_drop, ← hsz] at cr
  rw [List.drop_drop] at g2 g3
  rw [List.length_cons] at h3
  refine Ev.step (fun k => rfl) (ev_if_pos (by omega) ?_)
  rw [decide_eq_true (show (rows.length : Int) ≤ 400 by omega)]
  refine Ev.step (fun k => (hj i rows true k).trans (if_pos rfl)) (Ev.bind sv ?_)
  refine sg_row_pos s hs w hw rows (by omega) b w 0 (i + n1) [] vs n2 (by omega) (by omega) rfl (by omega) g2 r ?_
  rw [show i + n1 + n2 = i + (n1 + n2) by omega]
  refine ih (i + (n1 + n2)) (rows ++ [⟨vs, b⟩]) cs' (by omega) g3 (by rw [List.length_append]; show rows.length + 1 + _ ≤ _; omega) r ?_
  rw [List.append_assoc, List.singleton_append]
  exact hr
noncomputable def resS (s : ByteArray) : Int × List S47 × Bool := match s.data.toList with
 | [] => (0, [], false)
 | c :: t => if c.toNat ≤ 12 then resG c.toNat (pBag c.toNat s.size t) else (0, [], false)
theorem bagP_rows {w : Nat} {cs : List S47} (h : BagP (w : Int) cs) : ∀ c ∈ cs, c.f0.length = w ∧ (∀ v ∈ c.f0, okV v.f0 v.f1 v.f2.data.toList = true) := (forall_getD z47 (p := fun c => c.f0.length = w ∧ (∀ v ∈ c.f0, okV v.f0 v.f1 v.f2.data.toList = true))).1 fun j hj => by
 have hr := (h.1 j hj).1
 exact ⟨by have := hr.2; omega, hr.1⟩
open Classical in
theorem specGetBag_is (s : ByteArray) (hs : s.size ≤ 1048576) : Ev (fun k => spec_GetBag.f k s) (resS s) := by
 have hsz := size_data s
 have hj := fun (q : Bool) (k : Nat) => (show spec_GetBag.j0 (k + 1) s q = ite (q = true) (some (0, ([] : List (S47)), false)) _ from rfl)
 unfold resS
 cases hd : s.data.toList with
 | nil =>
  have hl : s.toList = [] := by rw [toList_data, hd]
  exact Ev.congr (fun k => if_pos hl) (Ev.step (fun k => (hj true k).trans (if_pos rfl)) (ev_some fun _ => rfl))
 | cons c t =>
  have hl : s.toList ≠ [] := by rw [toList_data, hd]; simp
  have h0 : 0 < s.size := by rw [hsz, hd]; simp
  have hd0 : s.data.toList.drop 0 = c :: t := by rw [List.drop_zero, hd]
  have hd1 : s.data.toList.drop 1 = t := by rw [hd]; rfl
  have hb : bt s 0 = (c.toNat : Int) := bt_at' (i := 0) hd0
  have hwb : wrap64 (bt s 0) = (c.toNat : Int) := by rw [hb, wrap_byte]
  refine Ev.congr (fun k => (if_neg hl).trans (if_pos (show 0 < (s.size : Int) by omega))) ?_
  rw [hwb]
  by_cases hc : c.toNat ≤ 12
  case neg =>
   show Ev _ (ite _ _ _)
   rw [if_neg hc, decide_eq_true (show (c.toNat : Int) > 12 by omega)]
   exact Ev.step (fun k => (hj true k).trans (if_pos rfl)) (ev_some fun _ => rfl)
  show Ev _ (ite _ _ _)
  rw [if_pos hc, decide_eq_false (show ¬ (c.toNat : Int) > 12 by omega)]
  have hj2 := fun (q : Bool) (k : Nat) => (show spec_GetBag.j0 (k + 1) s q = ite (q = true) _ (ite (0 < (s.size : Int)) (spec_GetBag.l0 k s 1 (wrap64 (bt s 0)) ([] : List (S47))) none) from rfl)
  refine Ev.step (fun k => (hj2 false k).trans ((if_neg Bool.false_ne_true).trans (if_pos (show 0 < (s.size : Int) by omega)))) ?_
  rw [hwb]
  obtain ⟨r, hr, hg⟩ := sg_any s hs h0 c.toNat hc s.size 1 [] (by omega) (by omega) (by simp) (fun y hy => by cases hy)
  have key : ∀ cs, pBag c.toNat s.size t = some cs → BagP (c.toNat : Int) cs → Ev (fun k => spec_GetBag.l0 k s (1 : Int) (c.toNat : Int) []) ((c.toNat : Int), cs, true) := fun cs hp hbp => by
   obtain ⟨r', hr', hf⟩ := sg_fin s h0 c.toNat (s.size : Int) cs (by have := hbp.2.2; omega) (fun y hy => by have := (bagP_rows hbp y hy).1; omega)
   have he : encB (c.toNat : Int) cs = s.data.toList := by
    have := pBag_can c.toNat s.size t cs hp
    unfold encB
    rw [this, hd, show ((c.toNat : Int) % 256) = (c.toNat : Int) by have := c.toNat_lt; omega, u8_of]
   rcases hf with ⟨_, _, g3⟩ | ⟨g, _⟩
   ·have := sg_pos s hs c.toNat hc s.size 1 [] cs (by omega) (by rw [hd1]; exact hp) (by have := hbp.2.2; simpa using this) r' hr'
    rw [g3] at this
    exact this
   ·exact absurd ⟨hbp, he⟩ g
  unfold resG
  cases hp : pBag c.toNat s.size t with
  | none =>
   rcases hg with rfl | ⟨cs, k1, k2, k3, rfl⟩
   ·exact hr
   ·exfalso
    have hte : cs.flatMap encC = t := by
     unfold encB at k3
     rw [hd] at k3
     exact (List.cons.inj k3).2
    have := pBag_enc c.toNat cs s.size (by rw [hte, hsz, hd]; simp) (fun y hy => ⟨(bagP_rows k2 y hy).1, fun v hv => ⟨(bagP_rows k2 y hy).2 v hv, (k1 y hy).2.1 v hv⟩, (k1 y hy).2.2⟩)
    rw [hte, hp] at this
    cases this
  | some cs =>
   show Ev _ (ite _ _ _)
   by_cases hbp : BagP (c.toNat : Int) cs
   ·rw [if_pos hbp]
    exact key cs hp hbp
   ·rw [if_neg hbp]
    rcases hg with rfl | ⟨cs', k1, k2, k3, rfl⟩
    ·exact hr
    ·exfalso
     have hte : cs'.flatMap encC = t := by
      unfold encB at k3
      rw [hd] at k3
      exact (List.cons.inj k3).2
     have := pBag_enc c.toNat cs' s.size (by rw [hte, hsz, hd]; simp) (fun y hy => ⟨(bagP_rows k2 y hy).1, fun v hv => ⟨(bagP_rows k2 y hy).2 v hv, (k1 y hy).2.1 v hv⟩, (k1 y hy).2.2⟩)
     rw [hte, hp] at this
     obtain rfl := Option.some.inj this
     exact hbp k2
theorem implGetBag_is (s : ByteArray) (hs : s.size ≤ 1048576) : Ev (fun k => impl_GetBag.f k s) (resS s) := by
 have hsz := size_data s
 have hj := fun (q p : Bool) (i w : Int) (k : Nat) => (show impl_GetBag.j0 (k + 1) s q s i p w = ite (q = true) (some (0, ([] : List (S47)), false, s, i, p)) (impl_GetBag.l0 k s s i p w []) from rfl)
 have out : ∀ {a : Int} {b : List S47} {c : Bool} {q : ByteArray × Int × Bool}, Ev (fun k => impl_GetBag.r k s s 0 false) (a, b, c, q) → Ev (fun k => impl_GetBag.f k s) (a, b, c) := fun h => Ev.bind h (ev_some fun _ => rfl)
 unfold resS
 cases hd : s.data.toList with
 | nil =>
  have hl : s.size = 0 := by rw [hsz, hd]; rfl
  have h1 : impl_reader_size.f s 0 false 1 = some (0, s, ((0 : Nat) : Int), true) := size_short s 0 1 (by omega) (by omega) (by omega) (by omega)
  exact out (q := (s, 0, true)) (ev_bind0 h1 (ev_if_pos rfl (Ev.step (fun k => (hj true true _ _ k).trans (if_pos rfl)) (ev_some fun _ => rfl))))
 | cons c t =>
  have h0 : 0 < s.size := by rw [hsz, hd]; simp
  have hd1 : s.data.toList.drop 1 = t := by rw [hd]; rfl
  have hd0 : s.data.toList.drop 0 = c :: t := by rw [List.drop_zero, hd]
  have h1 : impl_reader_size.f s 0 false 1 = some ((c.toNat : Int), s, ((1 : Nat) : Int), false) := by
   have := size_ok s 0 1 (by omega) (by omega)
   rw [hd0, List.take_succ_cons, List.take_zero, beN_one, wrap_byte] at this
   exact this
  by_cases hc : c.toNat ≤ 12
  case neg =>
   show Ev _ (ite _ _ _)
   rw [if_neg hc]
   refine out (q := (s, 1, false)) (ev_bind0 h1 (ev_if_neg (by simp) ?_))
   rw [show (decide ((((c.toNat : Int), s, ((1 : Nat) : Int), false) : Int × ByteArray × Int × Bool).1 > 12)) = true from decide_eq_true (show (c.toNat : Int) > 12 by omega)]
   exact Ev.step (fun k => (hj true false _ _ k).trans (if_pos rfl)) (ev_some fun _ => rfl)
  show Ev _ (ite _ _ _)
  rw [if_pos hc]
  obtain ⟨q, hq⟩ := gb_loop s hs c.toNat hc s.size 1 [] (by omega) (by omega) (by simp)
  have em : ∀ o : Option (List S47), o.map (([] : List S47) ++ ·) = o := fun o => by cases o <;> simp
  rw [em, hd1] at hq
  refine out (q := q) (ev_bind0 h1 (ev_if_neg (by simp) ?_))
  rw [show (decide ((((c.toNat : Int), s, ((1 : Nat) : Int), false) : Int × ByteArray × Int × Bool).1 > 12)) = false from decide_eq_false (show ¬ (c.toNat : Int) > 12 by omega)]
  exact Ev.step (fun k => (hj false false _ _ k).trans (if_neg Bool.false_ne_true)) hq
open Classical in
theorem resS_small (s : ByteArray) : (resS s).2.1.length ≤ 400 ∧ ∀ c ∈ (resS s).2.1, c.f0.length ≤ 12 := by
 have none_ : (([] : List S47).length ≤ 400 ∧ ∀ c ∈ ([] : List S47), c.f0.length ≤ 12) := ⟨by simp, fun c hc => by cases hc⟩
 unfold resS
 cases s.data.toList with
 | nil => exact none_
 | cons c t =>
  show (ite (c.toNat ≤ 12) _ _ : Int × List S47 × Bool).2.1.length ≤ 400 ∧ ∀ y ∈ (ite (c.toNat ≤ 12) _ _ : Int × List S47 × Bool).2.1, y.f0.length ≤ 12
  by_cases hc : c.toNat ≤ 12
  case neg => rw [if_neg hc]; exact none_
  rw [if_pos hc]
  unfold resG
  cases pBag c.toNat s.size t with
  | none => exact none_
  | some cs =>
   show (ite (BagP (c.toNat : Int) cs) _ _ : Int × List S47 × Bool).2.1.length ≤ 400 ∧ ∀ y ∈ (ite (BagP (c.toNat : Int) cs) _ _ : Int × List S47 × Bool).2.1, y.f0.length ≤ 12
   by_cases hb : BagP (c.toNat : Int) cs
   ·rw [if_pos hb]
    exact ⟨hb.2.2, fun y hy => by have := (bagP_rows hb y hy).1; show y.f0.length ≤ 12; omega⟩
   ·rw [if_neg hb]; exact none_
def I64 (x : Int) : Prop := -9223372036854775808 ≤ x ∧ x ≤ 9223372036854775807
theorem i64_wrap (x : Int) : I64 (wrap64 x) := by unfold I64 wrap64; omega
def okR (w : Nat) (r : List S50) : Prop := r.length = w ∧ ∀ v ∈ r, okD v.f0 v.f1 v.f2
def okC (w : Nat) (c : S47) : Prop := okR w c.f0 ∧ I64 c.f1
def okI (l : List Int) (i : Int) : Prop := 0 ≤ i ∧ i ≤ 1048576 ∧ l.length ≤ 1048576
theorem row_draw (l : List Int) (w n : Nat) (hw : w ≤ 100) (rows : List (List S50)) (hr : rows.length ≤ 1000) (x8 : Int) (G : List (List S50) × Int × Int → Prop)
  (hF : ∀ acc i h, okR w acc → okI l i → ∃ r, Ev (fun k => spec_l02Rows.l0 k (w : Int) (n : Int) (rows ++ [acc]) (wrap64 (x8 + 1)) l i h) r ∧ G r) :
  ∀ (m j : Nat) (acc : List S50) (i h : Int), w - j = m → acc.length = j → j ≤ w → (∀ v ∈ acc, okD v.f0 v.f1 v.f2) → okI l i → ∃ r, Ev (fun k => spec_l02Rows.l1 k (w : Int) (n : Int) rows x8 acc (j : Int) l i h) r ∧ G r := by
 intro m
 induction m with
 | zero =>
  intro j acc i h h1 h2 h3 h4 h5
  obtain ⟨r, hr', hg⟩ := hF acc i h ⟨by omega, h4⟩ h5
  exact ⟨r, Ev.step (fun k => rfl) (ev_if_neg (by omega) (ev_if_pos (by omega) hr')), hg⟩
 | succ m ih =>
  intro j acc i h h1 h2 h3 h4 h5
  obtain ⟨a, b, s, i1, h1', e, ok, g0, g1⟩ := drawVal_is l i h h5.1 h5.2.2 h5.2.1
  obtain ⟨r, hr', hg⟩ := ih (j + 1) (acc ++ [⟨a, b, s⟩]) i1 h1' (by omega) (by rw [List.length_append, h2]; rfl) (by omega) (fun v hv => by
   rcases List.mem_append.1 hv with hv | hv
   ·exact h4 v hv
   ·rw [List.mem_singleton.1 hv]; exact ok) ⟨g0, g1, h5.2.2⟩
  refine ⟨r, Ev.step (fun k => rfl) (ev_if_pos (by omega) (Ev.bind e (ev_if_pos (by omega) ?_))), hg⟩
  rw [wrap_succ (show j < w by omega) (by omega)]
  exact hr'
theorem rows_draw (l : List Int) (w n : Nat) (hw : w ≤ 100) (hn : n ≤ 100) (i h : Int) (hi : okI l i) :
  ∃ rows i' h', Ev (fun k => spec_l02Rows.f k l i h (w : Int) (n : Int)) (rows, i', h') ∧ rows.length = n ∧ (∀ r ∈ rows, okR w r) ∧ okI l i' := by
 have loop : ∀ (m j : Nat) (rows : List (List S50)) (i h : Int), n - j = m → rows.length = j → j ≤ n → (∀ r ∈ rows, okR w r) → okI l i →
   ∃ r, Ev (fun k => spec_l02Rows.l0 k (w : Int) (n : Int) rows (j : Int) l i h) r ∧ (r.1.length = n ∧ (∀ y ∈ r.1, okR w y) ∧ okI l r.2.1) := by
  intro m
  induction m with
  | zero =>
   intro j rows i h h1 h2 h3 h4 h5
   exact ⟨_, Ev.step (fun k => rfl) (ev_if_neg (by omega) (ev_some fun _ => rfl)), by show rows.length = n; omega, h4, h5⟩
  | succ m ih =>
   intro j rows i h h1 h2 h3 h4 h5
   obtain ⟨r, hr, hg⟩ := row_draw l w n hw rows (by omega) (j : Int) (fun r => r.1.length = n ∧ (∀ y ∈ r.1, okR w y) ∧ okI l r.2.1) (fun acc i' h' ha hi' => by
    rw [wrap_succ (show j < n by omega) (by omega)]
    exact ih (j + 1) (rows ++ [acc]) i' h' (by omega) (by rw [List.length_append, h2]; rfl) (by omega) (fun y hy => by
     rcases List.mem_append.1 hy with hy | hy
     ·exact h4 y hy
     ·rw [List.mem_singleton.1 hy]; exact ha) hi') w 0 [] i h (by omega) rfl (by omega) (fun v hv => by cases hv) h5
   exact ⟨r, Ev.step (fun k => rfl) (ev_if_pos (by omega) hr), hg⟩
 obtain ⟨⟨rows, i', h'⟩, hr, g1, g2, g3⟩ := loop n 0 [] i h (by omega) rfl (by omega) (fun r hr => by cases hr) hi
 exact ⟨rows, i', h', hr, g1, g2, g3⟩
theorem copyRow_is (r : List S50) (h : r.length ≤ 1000000) : spec_l02CopyRow.f r = some r := by
 unfold spec_l02CopyRow.f
 rw [Option.bind_some, if_pos (by simp; omega), List.nil_append]
theorem put_tail (w : Nat) (W : Int) (xs : List S47) (hn : xs.length ≤ 1000) (hx : ∀ c ∈ xs, okC w c) (row : List S50) (hr : okR w row) (hw : w ≤ 100) (a : Int) (ha : I64 a) (lo : Nat) (hlo : lo ≤ xs.length) (q : Bool) (hq : q = true → lo < xs.length) :
  ∃ ys, Ev (fun k => spec_l02Put.j1 k row a (lo : Int) q W xs) (W, ys) ∧ ys.length ≤ xs.length + 1 ∧ ∀ c ∈ ys, okC w c := by
 have sub : ∀ (zs : List S47), (∀ c ∈ zs, c ∈ xs) → ∀ c ∈ zs, okC w c := fun zs h c hc => hx c (h c hc)
 have hj := fun (q : Bool) (k : Nat) => (show spec_l02Put.j1 (k + 1) row a (lo : Int) q W xs = ite (q = true) (ite (0 ≤ (lo : Int)) (ite ((lo : Int) < (xs.length : Int)) (ite (wrap64 (a + (rd_T47 xs (lo : Int)).f1) = 0) _ (some (W, (xs.set ((lo : Int)).toNat (⟨(rd_T47 xs (lo : Int)).f0, wrap64 (a + (rd_T47 xs (lo : Int)).f1)⟩ : S47))))) none) none) (ite (a = 0) (some (W, xs)) _) from rfl)
 cases q with
 | true =>
  have hl := hq rfl
  by_cases h0 : wrap64 (a + (rd_T47 xs (lo : Int)).f1) = 0
  ·have w1 : wrap64 ((lo : Int) + 1) = ((lo + 1 : Nat) : Int) := by rw [wrap_id (by omega) (by omega)]; omega
   refine ⟨([] ++ xs.take lo) ++ xs.drop (lo + 1), Ev.step (fun k => (hj true k).trans ((if_pos rfl).trans ((if_pos (by omega)).trans ((if_pos (by omega)).trans (if_pos h0))))) (ev_bind0 rfl (ev_if_pos (by omega) (ev_bind0 rfl (ev_if_pos (by simp; omega) (ev_bind0 rfl (ev_if_pos (by rw [w1]; omega) (ev_if_pos (by rw [w1]; omega) (ev_bind0 rfl (ev_if_pos (by simp; omega) (ev_some fun _ => ?_)))))))))), ?_, sub _ fun c hc => ?_⟩
   ·rw [w1, Int.toNat_natCast, Int.toNat_natCast]
   ·simp; omega
   ·rcases List.mem_append.1 hc with hc | hc
    ·exact List.mem_of_mem_take hc
    ·exact List.mem_of_mem_drop hc
  ·refine ⟨xs.set lo ⟨(rd_T47 xs (lo : Int)).f0, wrap64 (a + (rd_T47 xs (lo : Int)).f1)⟩, Ev.step (fun k => (hj true k).trans ((if_pos rfl).trans ((if_pos (by omega)).trans ((if_pos (by omega)).trans (if_neg h0))))) (ev_some fun _ => rfl), by rw [List.length_set]; omega, fun c hc => ?_⟩
   rcases List.mem_or_eq_of_mem_set hc with hc | rfl
   ·exact hx c hc
   ·exact ⟨(hx _ (getD_mem z47 hl)).1, i64_wrap _⟩
 | false =>
  by_cases h0 : a = 0
  ·exact ⟨xs, Ev.step (fun k => (hj false k).trans ((if_neg Bool.false_ne_true).trans (if_pos h0))) (ev_some fun _ => rfl), by omega, hx⟩
  ·refine ⟨(([] ++ xs.take lo) ++ [⟨row, a⟩]) ++ xs.drop lo, Ev.step (fun k => (hj false k).trans ((if_neg Bool.false_ne_true).trans (if_neg h0))) (ev_bind0 rfl (ev_if_pos (by omega) (ev_if_pos (by omega) (ev_bind0 rfl (ev_if_pos (by simp; omega) (ev_bind0 rfl (ev_bind0 (copyRow_is row (by have := hr.1; omega)) (ev_if_pos (by simp; omega) (ev_bind0 rfl (ev_bind0 rfl (ev_if_pos (by simp; omega) (ev_some fun _ => ?_)))))))))))), ?_, fun c hc => ?_⟩
   ·rw [Int.toNat_natCast]
   ·simp; omega
   ·rcases List.mem_append.1 hc with hc | hc
    ·rcases List.mem_append.1 hc with hc | hc
     ·exact hx c (List.mem_of_mem_take hc)
     ·rw [List.mem_singleton.1 hc]; exact ⟨hr, ha⟩
    ·exact hx c (List.mem_of_mem_drop hc)
theorem put_is (w : Nat) (W : Int) (xs : List S47) (hn : xs.length ≤ 1000) (hx : ∀ c ∈ xs, okC w c) (row : List S50) (hr : okR w row) (hw : w ≤ 100) (a : Int) (ha : I64 a) :
  ∃ ys, Ev (fun k => spec_l02Put.f k W xs row a) (W, ys) ∧ ys.length ≤ xs.length + 1 ∧ ∀ c ∈ ys, okC w c := by
 have len : ∀ j, j < xs.length → (xs.getD j z47).f0.length ≤ 9223372036854775807 := fun j hj => by have := (hx _ (getD_mem z47 hj)).1.1; omega
 have loop : ∀ (m lo hi : Nat), hi - lo ≤ m → lo ≤ hi → hi ≤ xs.length → ∃ ys, Ev (fun k => spec_l02Put.l0 k row a (lo : Int) (hi : Int) W xs) (W, ys) ∧ ys.length ≤ xs.length + 1 ∧ ∀ c ∈ ys, okC w c := by
  intro m
  induction m with
  | zero =>
   intro lo hi h1 h2 h3
   by_cases hl : lo < xs.length
   ·obtain ⟨ys, hy, g⟩ := put_tail w W xs hn hx row hr hw a ha lo (by omega) (cmpRow (xs.getD lo z47).f0 row == 0) (fun _ => hl)
    exact ⟨ys, Ev.step (fun k => rfl) (ev_if_neg (by omega) (ev_if_pos (by omega) (ev_if_pos (by omega) (Ev.bind (specCompareRow_is (xs.getD lo z47).f0 row (len lo hl)) hy)))), g⟩
   ·obtain ⟨ys, hy, g⟩ := put_tail w W xs hn hx row hr hw a ha lo (by omega) false (fun h => by cases h)
    exact ⟨ys, Ev.step (fun k => rfl) (ev_if_neg (by omega) (ev_if_neg (by omega) hy)), g⟩
  | succ m ih =>
   intro lo hi h1 h2 h3
   by_cases hlt : lo < hi
   case neg =>
    by_cases hl : lo < xs.length
    ·obtain ⟨ys, hy, g⟩ := put_tail w W xs hn hx row hr hw a ha lo (by omega) (cmpRow (xs.getD lo z47).f0 row == 0) (fun _ => hl)
     exact ⟨ys, Ev.step (fun k => rfl) (ev_if_neg (by omega) (ev_if_pos (by omega) (ev_if_pos (by omega) (Ev.bind (specCompareRow_is (xs.getD lo z47).f0 row (len lo hl)) hy)))), g⟩
    ·obtain ⟨ys, hy, g⟩ := put_tail w W xs hn hx row hr hw a ha lo (by omega) false (fun h => by cases h)
     exact ⟨ys, Ev.step (fun k => rfl) (ev_if_neg (by omega) (ev_if_neg (by omega) hy)), g⟩
   obtain ⟨mid, hm⟩ : ∃ mid, mid = (lo + hi) / 2 := ⟨_, rfl⟩
   have e : wrap64 (Int.tdiv (wrap64 ((lo : Int) + (hi : Int))) 2) = (mid : Int) := by
    rw [wrap_id (x := (lo : Int) + (hi : Int)) (by omega) (by omega), Int.tdiv_eq_ediv_of_nonneg (by omega), wrap_id (by omega) (by omega)]
    omega
   have em : wrap64 ((mid : Int) + 1) = ((mid + 1 : Nat) : Int) := by rw [wrap_id (by omega) (by omega)]; omega
   have top : ∀ r, Ev (fun k => (spec_CompareRow.f k (xs.getD mid z47).f0 row).bind fun t => (if t < 0 then (spec_l02Put.l0 k row a (wrap64 ((mid : Int) + 1)) (hi : Int) W xs) else (spec_l02Put.l0 k row a (lo : Int) (mid : Int) W xs))) r → Ev (fun k => spec_l02Put.l0 k row a (lo : Int) (hi : Int) W xs) r := fun r hr' => by
    refine Ev.step (fun k => rfl) (ev_if_pos (by omega) ?_)
    rw [e]
    exact ev_if_pos (by omega) (ev_if_pos (by omega) hr')
   have cr := specCompareRow_is (xs.getD mid z47).f0 row (len mid (by omega))
   by_cases hc : cmpRow (xs.getD mid z47).f0 row < 0
   ·obtain ⟨ys, hy, g⟩ := ih (mid + 1) hi (by omega) (by omega) h3
    refine ⟨ys, top _ (Ev.bind cr (ev_if_pos hc ?_)), g⟩
    rw [em]
    exact hy
   ·obtain ⟨ys, hy, g⟩ := ih lo mid (by omega) (by omega) (by omega)
    exact ⟨ys, top _ (Ev.bind cr (ev_if_neg hc hy)), g⟩
 exact loop xs.length 0 xs.length (by omega) (by omega) (by omega)
theorem bag_draw (l : List Int) (w : Nat) (hw : w ≤ 100) (minus : Bool) (i h : Int) (hi : okI l i) :
  ∃ xs i' h', Ev (fun k => spec_l02Bag.f k l i h (w : Int) minus) ((w : Int), xs, i', h') ∧ xs.length ≤ 6 ∧ (∀ c ∈ xs, okC w c) ∧ okI l i' := by
 obtain ⟨n, i1, h1, e1, n0, n1, g0, g1⟩ := below_is l i h 6 hi.1 hi.2.2 hi.2.1
 have n2 := n1 (by decide)
 obtain ⟨m, rfl⟩ := Int.eq_ofNat_of_zero_le n0
 obtain ⟨rows, i2, h2, e2, r1, r2, r3⟩ := rows_draw l w m hw (by omega) i1 h1 ⟨g0, g1, hi.2.2⟩
 have loop : ∀ (d j : Nat) (xs : List S47) (i h : Int), rows.length - j = d → j ≤ rows.length → xs.length ≤ j → (∀ c ∈ xs, okC w c) → okI l i →
   ∃ ys i' h', Ev (fun k => spec_l02Bag.l0 k minus rows (j : Int) l i h (w : Int) xs) ((w : Int), ys, i', h') ∧ ys.length ≤ rows.length ∧ (∀ c ∈ ys, okC w c) ∧ okI l i' := by
  intro d
  induction d with
  | zero =>
   intro j xs i h h1 h2 h3 h4 h5
   exact ⟨xs, i, h, Ev.step (fun k => rfl) (ev_if_neg (by omega) (ev_some fun _ => rfl)), by omega, h4, h5⟩
  | succ d ih =>
   intro j xs i h h1 h2 h3 h4 h5
   have hj : j < rows.length := by omega
   have hrow : okR w (rows.getD j []) := r2 _ (getD_mem [] hj)
   obtain ⟨x, i3, h3', e3, x0, x1, g2, g3⟩ := below_is l i h 3 h5.1 h5.2.2 h5.2.1
   have x2 := x1 (by decide)
   have step : ∀ (a : Int), I64 a → ∀ (i h : Int), okI l i → ∃ ys i' h', (∀ (k' : Unit), Ev (fun k => (spec_l02Put.f k (w : Int) xs (rd_L4 rows (j : Int)) a).bind fun bt => (spec_l02Bag.l0 k minus rows (wrap64 ((j : Int) + 1)) l i h bt.1 bt.2)) ((w : Int), ys, i', h')) ∧ ys.length ≤ rows.length ∧ (∀ c ∈ ys, okC w c) ∧ okI l i' := fun a ha i h hi' => by
    obtain ⟨zs, ez, z1, z2⟩ := put_is w (w : Int) xs (by omega) h4 (rows.getD j []) hrow hw a ha
    obtain ⟨ys, i', h', ey, y⟩ := ih (j + 1) zs i h (by omega) (by omega) (by omega) z2 hi'
    refine ⟨ys, i', h', fun _ => Ev.bind ez ?_, y⟩
    show Ev (fun k => spec_l02Bag.l0 k minus rows (wrap64 ((j : Int) + 1)) l i h (w : Int) zs) _
    rw [wrap_succ hj (by omega)]
    exact ey
   have b1 : I64 (wrap64 (1 + x)) := i64_wrap _
   cases minus with
   | false =>
    obtain ⟨ys, i', h', ey, y⟩ := step _ b1 i3 h3' ⟨g2, g3, hi.2.2⟩
    exact ⟨ys, i', h', Ev.step (fun k => rfl) (ev_if_pos (by omega) (ev_bind0 e3 (ev_if_neg (by simp) (ev_if_pos (by omega) (ey ()))))), y⟩
   | true =>
    obtain ⟨q, i4, h4', e4, g4, g5⟩ := once_is l i3 h3' 3 g2 hi.2.2 g3
    cases q with
    | true =>
     obtain ⟨ys, i', h', ey, y⟩ := step _ (i64_wrap (-(wrap64 (1 + x)))) i4 h4' ⟨g4, g5, hi.2.2⟩
     exact ⟨ys, i', h', Ev.step (fun k => rfl) (ev_if_pos (by omega) (ev_bind0 e3 (ev_if_pos rfl (ev_bind0 e4 (ev_if_pos rfl (ev_if_pos (by omega) (ey ()))))))), y⟩
    | false =>
     obtain ⟨ys, i', h', ey, y⟩ := step _ b1 i4 h4' ⟨g4, g5, hi.2.2⟩
     exact ⟨ys, i', h', Ev.step (fun k => rfl) (ev_if_pos (by omega) (ev_bind0 e3 (ev_if_pos rfl (ev_bind0 e4 (ev_if_neg (by simp) (ev_if_pos (by omega) (ey ()))))))), y⟩
 obtain ⟨ys, i', h', ey, y1, y2, y3⟩ := loop _ 0 [] i2 h2 rfl (Nat.zero_le _) (Nat.zero_le _) (fun c hc => by cases hc) r3
 exact ⟨ys, i', h', ev_bind0 e1 (Ev.bind e2 ey), by omega, y2, y3⟩
def okB (xs : List S47) : Prop := xs.length ≤ 10 ∧ ∀ c ∈ xs, (c.f0.length ≤ 4 ∧ ∀ v ∈ c.f0, okD v.f0 v.f1 v.f2) ∧ I64 c.f1
theorem okB_of {w : Nat} {xs : List S47} (hw : w ≤ 4) (h1 : xs.length ≤ 10) (h2 : ∀ c ∈ xs, okC w c) : okB xs := ⟨h1, fun c hc => ⟨⟨by have := (h2 c hc).1.1; omega, (h2 c hc).1.2⟩, (h2 c hc).2⟩⟩
theorem anyBag_draw (l : List Int) (i h : Int) (hi : okI l i) : ∃ W xs i' h', Ev (fun k => spec_l02Any.f k l i h) (W, xs, i', h') ∧ okB xs ∧ okI l i' := by
 obtain ⟨w, i1, h1, e1, w0, w1, g0, g1⟩ := below_is l i h 4 hi.1 hi.2.2 hi.2.1
 have w2 := w1 (by decide)
 obtain ⟨w, rfl⟩ := Int.eq_ofNat_of_zero_le w0
 obtain ⟨xs, i2, h2, e2, b1, b2, b3⟩ := bag_draw l w (by omega) true i1 h1 ⟨g0, g1, hi.2.2⟩
 obtain ⟨x, i3, h3, e3, x0, x1, g2, g3⟩ := below_is l i2 h2 16 b3.1 b3.2.2 b3.2.1
 have plain : okB xs := okB_of (by omega) (by omega) b2
 have top : ∀ r, Ev _ r → Ev (fun k => spec_l02Any.f k l i h) r := fun r hr => ev_bind0 e1 (Ev.bind e2 (ev_bind0 e3 hr))
 by_cases c0 : x = 0
 ·obtain ⟨y, i4, h4, e4, y0, g4, g5⟩ := pickInt_is l i3 h3 [(-1), 13, wrap64 ((w : Int) + 1)] (by simp) g2 hi.2.2 g3
  exact ⟨y, xs, i4, h4, top _ (ev_if_pos c0 (ev_bind0 e4 (ev_some fun _ => rfl))), plain, g4, g5, hi.2.2⟩
 by_cases c1 : x = 1
 ·obtain ⟨rows, i4, h4, e4, r1, r2, r3⟩ := rows_draw l w 1 (by omega) (by omega) i3 h3 ⟨g2, g3, hi.2.2⟩
  obtain ⟨y, i5, h5, e5, y0, y1, g6, g7⟩ := below_is l i4 h4 3 r3.1 r3.2.2 r3.2.1
  have y2 := y1 (by decide)
  refine ⟨(w : Int), xs ++ [⟨rd_L4 rows 0, y⟩], i5, h5, top _ (ev_if_neg c0 (ev_if_pos c1 (Ev.bind e4 (ev_if_pos (by show 0 < (rows.length : Int); omega) (ev_bind0 e5 (ev_if_pos (by show xs.length < _; omega) (ev_some fun _ => rfl))))))), okB_of (w := w) (by omega) (by simp; omega) (fun c hc => ?_), g6, g7, hi.2.2⟩
  rcases List.mem_append.1 hc with hc | hc
  ·exact b2 c hc
  ·rw [List.mem_singleton.1 hc]
   exact ⟨r2 _ (getD_mem [] (show 0 < rows.length by omega)), by unfold I64; show -9223372036854775808 ≤ y ∧ y ≤ 9223372036854775807; omega⟩
 by_cases c2 : x = 2
 ·by_cases hl : (xs.length : Int) > 0
  ·obtain ⟨y, i4, h4, e4, y0, g4, g5⟩ := pickInt_is l i3 h3 [0, 1000000000, 1000000001, (-1000000000)] (by simp) g2 hi.2.2 g3
   have yb : I64 y := by
    simp only [List.mem_cons, List.not_mem_nil, or_false] at y0
    unfold I64
    omega
   refine ⟨(w : Int), xs.set 0 ⟨(rd_T47 xs 0).f0, y⟩, i4, h4, top _ (ev_if_neg c0 (ev_if_neg c1 (ev_if_pos c2 (ev_if_pos hl (ev_bind0 e4 (ev_if_pos (by show 0 < (xs.length : Int); omega) (ev_some fun _ => rfl))))))), okB_of (w := w) (by omega) (by rw [List.length_set]; omega) (fun c hc => ?_), g4, g5, hi.2.2⟩
   rcases List.mem_or_eq_of_mem_set hc with hc | rfl
   ·exact b2 c hc
   ·exact ⟨(b2 _ (getD_mem z47 (show 0 < xs.length by omega))).1, yb⟩
  ·exact ⟨(w : Int), xs, i3, h3, top _ (ev_if_neg c0 (ev_if_neg c1 (ev_if_pos c2 (ev_if_neg hl (ev_some fun _ => rfl))))), plain, g2, g3, hi.2.2⟩
 ·exact ⟨(w : Int), xs, i3, h3, top _ (ev_if_neg c0 (ev_if_neg c1 (ev_if_neg c2 (ev_some fun _ => rfl)))), plain, g2, g3, hi.2.2⟩
theorem drawPut_is (l : List Int) (hl : l.length ≤ 1048576) : ∃ W xs, Ev (fun k => spec_DrawPutBag.f k l) (W, xs) ∧ okB xs := by
 obtain ⟨h, e⟩ := new_is l hl
 obtain ⟨W, xs, i', h', e2, ok, _⟩ := anyBag_draw l 0 h ⟨by decide, by decide, hl⟩
 exact ⟨W, xs, Ev.bind e (Ev.bind e2 (ev_some fun _ => rfl)), ok⟩
open Classical in
theorem putB_size (W : Int) (xs : List S47) (h : okB xs) : (if BagP W xs then encB W xs else []).length ≤ 100000 := by
 by_cases hb : BagP W xs
 ·rw [if_pos hb]
  have : (xs.flatMap encC).length ≤ xs.length * 1000 := flat_le encC 1000 xs fun c hc => by
   have g := h.2 c hc
   have k1 : (encV 1 c.f1 []).length ≤ 110 := encV_le (by simp)
   have k2 : (c.f0.flatMap encX).length ≤ c.f0.length * 110 := flat_le encX 110 c.f0 fun v hv => encV_le (by
    have := (g.1.2 v hv).2.2.2.2
    have hz := size_data v.f2
    omega)
   have := g.1.1
   unfold encC
   rw [List.length_append]
   omega
  have := h.1
  unfold encB
  rw [List.length_cons]
  omega
 ·rw [if_neg hb]; simp
open Classical in
theorem drawGet_is (l : List Int) (hl : l.length ≤ 1048576) : ∃ u, Ev (fun k => spec_DrawGetBag.f k l) u ∧ u.size ≤ 1048576 := by
 obtain ⟨h, e⟩ := new_is l hl
 obtain ⟨W, xs, i1, h1, e2, ok, oi⟩ := anyBag_draw l 0 h ⟨by decide, by decide, hl⟩
 have sp := specPutBag_is W xs (by have := ok.1; omega) (fun c hc => by have := (ok.2 c hc).1.1; omega)
 have hs := putB_size W xs ok
 generalize hT : mkB (if BagP W xs then encB W xs else []) = T at sp
 have hz : T.size ≤ 100000 := by rw [← hT, mkB_size]; exact hs
 have wz : wrap64 ((T.size : Int) + 1) = ((T.size + 1 : Nat) : Int) := by rw [wrap_id (by omega) (by omega)]; omega
 obtain ⟨x, i2, h2, e3, x0, x1, g0, g1⟩ := below_is l i1 h1 ((T.size + 1 : Nat) : Int) oi.1 oi.2.2 oi.2.1
 have x2 := x1 (by omega)
 obtain ⟨n, rfl⟩ := Int.eq_ofNat_of_zero_le x0
 rw [← wz] at e3
 obtain ⟨y, i3, h3, e4, y0, y1, g2, g3⟩ := below_is l i2 h2 6 g0 hl g1
 have top : ∀ r, Ev _ r → Ev (fun k => spec_DrawGetBag.f k l) r := fun r hr => Ev.bind e (Ev.bind e2 (Ev.bind sp (ev_bind0 e3 (ev_bind0 e4 hr))))
 have ex : ∀ a b : Nat, (T.extract a b).size ≤ T.size := fun a b => by rw [extract_mk, mkB_size, List.length_take, List.length_drop, size_data]; omega
 by_cases c0 : y = 0
 ·exact ⟨_, top _ (ev_if_pos c0 (ev_if_pos (by show (0 : Int) ≤ (n : Int); omega) (ev_if_pos (by show (n : Int) ≤ (T.size : Int); omega) (ev_some fun _ => rfl)))), by have := ex 0 ((n : Int).toNat); show (T.extract 0 ((n : Int).toNat)).size ≤ _; omega⟩
 by_cases c1 : y = 1
 ·obtain ⟨z, i4, h4, e5, z0, g4, g5⟩ := pick_is l i3 h3 [(⟨#[0]⟩ : ByteArray), (⟨#[1]⟩ : ByteArray), (⟨#[3]⟩ : ByteArray)] (by decide) g2 hl g3
  have zs : z.size ≤ 10 := by
   simp only [List.mem_cons, List.not_mem_nil, or_false] at z0
   rcases z0 with rfl | rfl | rfl <;> decide
  have k1 := ex 0 ((n : Int).toNat)
  have k2 := ex ((n : Int).toNat) T.size
  refine ⟨_, top _ (ev_if_neg c0 (ev_if_pos c1 (ev_if_pos (by show (0 : Int) ≤ (n : Int); omega) (ev_if_pos (by show (n : Int) ≤ (T.size : Int); omega) (ev_bind0 e5 (ev_if_pos (by show (T.extract 0 ((n : Int).toNat)).size + z.size ≤ _; omega) (ev_if_pos (by show (T.extract 0 ((n : Int).toNat) ++ z).size + (T.extract ((n : Int).toNat) T.size).size ≤ _; rw [ByteArray.size_append]; omega) (ev_some fun _ => rfl)))))))), ?_⟩
  show ((T.extract 0 ((n : Int).toNat) ++ z) ++ T.extract ((n : Int).toNat) T.size).size ≤ _
  rw [ByteArray.size_append, ByteArray.size_append]
  omega
 ·exact ⟨_, top _ (ev_if_neg c0 (ev_if_neg c1 (ev_some fun _ => rfl))), by omega⟩
theorem sameRow_refl (xs : List S50) (hn : xs.length ≤ 1000000) : Ev (fun k => laws_sameRow.f k xs xs) true := by
 have loop : ∀ (m j : Nat), xs.length - j = m → j ≤ xs.length → Ev (fun k => laws_sameRow.l0 k xs xs (j : Int)) true := by
  intro m
  induction m with
  | zero => exact fun j h1 h2 => Ev.step (fun k => rfl) (ev_if_neg (by omega) (ev_some fun _ => rfl))
  | succ m ih =>
   intro j h1 h2
   refine Ev.step (fun k => rfl) (ev_if_pos (by omega) (ev_if_pos (by omega) (ev_if_pos (by omega) (ev_if_neg (by simp) ?_))))
   rw [wrap_succ (show j < xs.length by omega) (by omega)]
   exact ih (j + 1) (by omega) (by omega)
 exact Ev.congr (fun k => if_pos rfl) (loop _ 0 rfl (Nat.zero_le _))
theorem sameBag_refl (w : Int) (xs : List S47) (hn : xs.length ≤ 1000000) (hx : ∀ c ∈ xs, c.f0.length ≤ 1000000) : Ev (fun k => laws_sameBag.f k w xs w xs) true := by
 have loop : ∀ (m j : Nat), xs.length - j = m → j ≤ xs.length → Ev (fun k => laws_sameBag.l0 k (j : Int) w xs w xs) true := by
  intro m
  induction m with
  | zero => exact fun j h1 h2 => Ev.step (fun k => rfl) (ev_if_neg (by omega) (ev_some fun _ => rfl))
  | succ m ih =>
   intro j h1 h2
   have hj : j < xs.length := by omega
   refine Ev.step (fun k => rfl) (ev_if_pos (by omega) (ev_if_pos (by omega) (ev_if_pos (by omega) (ev_if_pos rfl (Ev.bind (sameRow_refl (xs.getD j z47).f0 (hx _ (getD_mem z47 hj))) (ev_if_pos rfl ?_))))))
   rw [wrap_succ hj (by omega)]
   exact ih (j + 1) (by omega) (by omega)
 have hq := fun (q : Bool) (k : Nat) => (show laws_sameBag.j0 (k + 1) q w xs w xs = ite (q = true) (some false) (laws_sameBag.l0 k 0 w xs w xs) from rfl)
 refine Ev.congr (fun k => if_pos rfl) ?_
 rw [bne_self_eq_false]
 exact Ev.step (fun k => (hq false k).trans (if_neg Bool.false_ne_true)) (loop _ 0 rfl (Nat.zero_le _))
theorem ev_one {α : Type} {g : Nat → Option α} {a b : α} (h : Ev g a) (k : Ev g b) : a = b := by
 obtain ⟨K, h⟩ := h
 obtain ⟨K', k⟩ := k
 exact Option.some.inj ((h (max K K') (Nat.le_max_left _ _)).symm.trans (k (max K K') (Nat.le_max_right _ _)))
open Classical in
theorem putBoth_is (w : Int) (xs : List S47) (hn : xs.length ≤ 1048576) (hx : ∀ c ∈ xs, c.f0.length ≤ 1048576) : Ev (fun k => impl_PutBag.f k w xs) (mkB (if BagP w xs then encB w xs else [])) ∧ Ev (fun k => spec_PutBag.f k w xs) (mkB (if BagP w xs then encB w xs else [])) := by
 obtain ⟨t, h1, h2⟩ := putBag_is w xs hn hx
 have h3 := specPutBag_is w xs hn hx
 rw [ev_one h2 h3] at h1
 exact ⟨h1, h3⟩
open Classical in
theorem resS_true {s : ByteArray} (h : (resS s).2.2 = true) : BagP (resS s).1 (resS s).2.1 ∧ encB (resS s).1 (resS s).2.1 = s.data.toList := by
 obtain ⟨r, hr⟩ : ∃ r, r = resS s := ⟨_, rfl⟩
 rw [← hr] at h ⊢
 unfold resS at hr
 cases hd : s.data.toList with
 | nil => rw [hd] at hr; rw [hr] at h; cases h
 | cons c t =>
  rw [hd] at hr
  replace hr : r = ite (c.toNat ≤ 12) (resG c.toNat (pBag c.toNat s.size t)) (0, [], false) := hr
  by_cases hc : c.toNat ≤ 12
  case neg => rw [if_neg hc] at hr; rw [hr] at h; cases h
  rw [if_pos hc] at hr
  unfold resG at hr
  cases hp : pBag c.toNat s.size t with
  | none => rw [hp] at hr; rw [hr] at h; cases h
  | some cs =>
   rw [hp] at hr
   replace hr : r = ite (BagP (c.toNat : Int) cs) ((c.toNat : Int), cs, true) (0, [], false) := hr
   by_cases hb : BagP (c.toNat : Int) cs
   ·rw [if_pos hb] at hr
    subst hr
    refine ⟨hb, ?_⟩
    show encB (c.toNat : Int) cs = c :: t
    unfold encB
    rw [pBag_can c.toNat s.size t cs hp, show ((c.toNat : Int) % 256) = (c.toNat : Int) by have := c.toNat_lt; omega, u8_of]
   ·rw [if_neg hb] at hr; rw [hr] at h; cases h
open Classical in
theorem resS_enc (W : Int) (xs : List S47) (hb : BagP W xs) (hx : ∀ c ∈ xs, ∀ v ∈ c.f0, bX v) : resS (mkB (encB W xs)) = (W, xs, true) := by
 obtain ⟨w, rfl⟩ := Int.eq_ofNat_of_zero_le hb.2.1.1
 have hw := hb.2.1.2
 have hc : (u8 ((w : Int) % 256)).toNat = w := by
  have := u8_toNat (n := (w : Int) % 256) (by omega) (by omega)
  omega
 have hf1 : ∀ c ∈ xs, -9223372036854775808 ≤ c.f1 ∧ c.f1 ≤ 9223372036854775807 := (forall_getD z47 (p := fun c => -9223372036854775808 ≤ c.f1 ∧ c.f1 ≤ 9223372036854775807)).1 fun j hj => by
  have := (hb.1 j hj).2.2.1
  omega
 have pe := pBag_enc w xs (mkB (encB (w : Int) xs)).size (by rw [mkB_size]; unfold encB; rw [List.length_cons]; omega) (fun c hc' => ⟨(bagP_rows hb c hc').1, fun v hv => ⟨(bagP_rows hb c hc').2 v hv, hx c hc' v hv⟩, hf1 c hc'⟩)
 show (match (encB (w : Int) xs) with | [] => ((0 : Int), ([] : List S47), false) | c :: t => if c.toNat ≤ 12 then resG c.toNat (pBag c.toNat (mkB (encB (w : Int) xs)).size t) else (0, [], false)) = _
 show (ite ((u8 ((w : Int) % 256)).toNat ≤ 12) (resG (u8 ((w : Int) % 256)).toNat (pBag (u8 ((w : Int) % 256)).toNat (mkB (encB (w : Int) xs)).size (xs.flatMap encC))) (0, [], false) : Int × List S47 × Bool) = _
 rw [hc, if_pos (by omega), pe]
 unfold resG
 exact if_pos hb
end Go.Proofs.YtoajedijckkjjaaGreatDoor.PFnBagBytes
