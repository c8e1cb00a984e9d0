/- Plain lemmas on what the functions of the law FnExactGetBag compute: numbers and lists alone. -/
import Derived.Test.YtnibegacjmnhoaaPFnExactGetBagx0
import Derived.Test.YtnibegacjmnhoaaPFnExactGetBagx1
import Derived.Test.YtnibegacjmnhoaaPFnExactGetBagx2
import Derived.Test.YtnibegacjmnhoaaPFnExactGetBagx3
import Derived.Test.YtnibegacjmnhoaaPFnExactGetBagx4
import Derived.Test.YtnibegacjmnhoaaPFnExactGetBagx5
import Derived.Test.YtnibegacjmnhoaaPFnExactGetBagx6
import Derived.Test.YtnibegacjmnhoaaPFnExactGetBagx7
import Derived.Test.YtnibegacjmnhoaaPFnExactGetBagx8
import Derived.Test.YtnibegacjmnhoaaPFnExactGetBagx9
import Derived.Test.YtnibegacjmnhoaaPFnExactGetBagx10
import Derived.Test.YtnibegacjmnhoaaPFnExactGetBagx11
import Derived.Test.YtnibegacjmnhoaaPFnExactGetBagx12
import Derived.Test.YtnibegacjmnhoaaPFnExactGetBagx13
import Derived.Test.YtnibegacjmnhoaaOpen
import Derived.Test.YtnibegacjmnhoaaZFnExactGetBag
namespace Go.Proofs.Ytnibegacjmnhoaa.PFnExactGetBag
open Go.RowKit Go.Proofs.YtnibegacjmnhoaaW.PrintWords Go.Proofs.YtnibegacjmnhoaaW.PrintLast Go.Proofs.YtnibegacjmnhoaaW.PrintMore Go.Proofs.YtnibegacjmnhoaaOpen Go.Proofs.Ytnibegacjmnhoaa.ZFnExactGetBag
set_option linter.unusedVariables false
set_option linter.unusedSimpArgs false
theorem cmpBytes_is (l m : List UInt8) : Go.Lib.compareBytes l m = if Op.bytesLess l m = true then -1 else if (Op.bytesLess l m || l == m) = true then 0 else 1 := by
  induction l generalizing m with
  | nil => cases m <;> simp [Go.Lib.compareBytes, Op.bytesLess]
  | cons a l ih =>
    cases m with
    | nil => simp [Go.Lib.compareBytes, Op.bytesLess]
    | cons b m =>
      simp only [Go.Lib.compareBytes, Op.bytesLess]
      by_cases h : a < b
      · simp [h]
      · by_cases h' : b < a
        · have hne : ¬ a = b := by rintro rfl; exact absurd h' h
          simp [h, h', hne]
        · have e : a = b := by
            apply UInt8.toNat_inj.1
            have h1 : ¬ a.toNat < b.toNat := h
            have h2 : ¬ b.toNat < a.toNat := h'
            omega
          subst e
          simp only [h, if_false, ih]
          simp
def cmpI (a b : Int) : Int := if a < b then -1 else if b < a then 1 else 0
theorem compare_int_is (a b : Int) : cmp_Compare_int.f a b = some (cmpI a b) := by
  unfold cmp_Compare_int.f cmp_isNaN_int.f cmpI
  simp only [Option.bind_some, bne_self_eq_false, Bool.false_eq_true, if_false, gt_iff_lt]
  by_cases h : a < b
  · simp [h]
  · by_cases h' : b < a <;> simp [h, h']
theorem or_three (k : Nat) (a b c : Int) : cmp_Or_int.f (k + 4) [a, b, c] = some (if a = 0 then (if b = 0 then c else b) else a) := by
  have w0 : wrap64 (0 + 1) = 1 := by unfold wrap64; omega
  have w1 : wrap64 (1 + 1) = 2 := by unfold wrap64; omega
  have w2 : wrap64 (2 + 1) = 3 := by unfold wrap64; omega
  unfold cmp_Or_int.f
  simp only [cmp_Or_int.l0, List.length_cons, List.length_nil, w0, w1, w2, rd]
  by_cases ha : a = 0
  · by_cases hb : b = 0
    · by_cases hc : c = 0
      · simp [ha, hb, hc]
      · simp [ha, hb, hc]
    · simp [ha, hb]
  · simp [ha]
theorem compareValue_is (k : Nat) (a b : Int) (s : ByteArray) (a' b' : Int) (s' : ByteArray) : impl_CompareValue.f (k + 4) a b s a' b' s' = some (cmpV a b s a' b' s') := by
  unfold impl_CompareValue.f strings_Compare.f bytealg_CompareString.f
  simp only [compare_int_is, Option.bind_some, or_three, cmpBytes_is]
  unfold cmpV cmpI
  have hd : ∀ z : ByteArray, z.toList = z.data.toList := fun z => ByteArray.toList_eq z
  rw [hd, hd]
  by_cases h1 : a < a'
  · simp [h1]
  · by_cases h2 : a' < a
    · simp [h1, h2]
    · by_cases h3 : b < b'
      · simp [h1, h2, h3]
      · by_cases h4 : b' < b
        · simp [h1, h2, h3, h4]
        · simp [h1, h2, h3, h4]
theorem eqValue_refl (a b : Int) (s : ByteArray) : laws_eqValue.f a b s a b s = some true := by simp [laws_eqValue.f]
theorem eqValueS_refl (xs : List S42) (hn : xs.length ≤ 9223372036854775807) : Ev (fun k => laws_eqValueS.f k xs xs) true :=
  eq_list z42 laws_eqValueS.f laws_eqValueS.l0 (fun _ x y => laws_eqValue.f x.f0 x.f1 x.f2 y.f0 y.f1 y.f2) (fun _ _ _ => rfl) (fun _ _ _ _ => rfl) xs hn (fun x _ => ev_some fun _ => eqValue_refl _ _ _)
theorem eqCounted_refl (a : List S42) (n : Int) (hn : a.length ≤ 9223372036854775807) : Ev (fun k => laws_eqCounted.f k a n a n) true := by
  refine Ev.congr (fun k => rfl) (Ev.bind (eqValueS_refl a hn) (f := fun k t => if t = true then (if n = n then some true else some false) else some false) ?_)
  exact ev_some fun _ => by simp
theorem eqCountedS_refl (xs : List S46) (hn : xs.length ≤ 9223372036854775807) (hx : ∀ x ∈ xs, x.f0.length ≤ 9223372036854775807) : Ev (fun k => laws_eqCountedS.f k xs xs) true :=
  eq_list z46 laws_eqCountedS.f laws_eqCountedS.l0 (fun k x y => laws_eqCounted.f k x.f0 x.f1 y.f0 y.f1) (fun _ _ _ => rfl) (fun _ _ _ _ => rfl) xs hn (fun x h => eqCounted_refl _ _ (hx x h))
theorem eqBag_refl (w : Int) (xs : List S46) (hn : xs.length ≤ 9223372036854775807) (hx : ∀ x ∈ xs, x.f0.length ≤ 9223372036854775807) : Ev (fun k => laws_eqBag.f k w xs w xs) true := by
  refine Ev.congr (fun k => if_pos rfl) (Ev.bind (eqCountedS_refl xs hn hx) (f := fun k t => if t = true then some true else some false) ?_)
  exact ev_some fun _ => by simp
/-- Is a value right. -/
def okV (a b : Int) (s : List UInt8) : Bool := if a = 0 then (b == 0 && s.isEmpty) else if a = 1 then s.isEmpty else if a = 2 then (decide (0 ≤ b ∧ b ≤ 1) && s.isEmpty) else if a = 3 then (b == 0 && decide (s.length ≤ 100)) else false
theorem specValueOk_is (a b : Int) (s : ByteArray) : spec_ValueOk.f a b s = some (okV a b s.data.toList) := by
  unfold spec_ValueOk.f okV spec_l01In.f
  have he : (s.toList == ([] : List UInt8)) = s.data.toList.isEmpty := by rw [toList_data]; cases s.data.toList <;> rfl
  rw [he, size_data]
  by_cases h0 : a = 0
  · by_cases hb : b = 0 <;> simp [h0, hb]
  · by_cases h1 : a = 1
    · simp [h1]
    · by_cases h2 : a = 2
      · by_cases hb : 0 ≤ b
        · by_cases hb' : b ≤ 1 <;> simp [h2, hb, hb']
        · simp [h2, hb]
      · by_cases h3 : a = 3
        · by_cases hb : b = 0
          · simp [h3, hb]
            omega
          · simp [h3, hb]
        · simp [h0, h1, h2, h3]
theorem implValueOk_is (a b : Int) (s : ByteArray) : impl_ValueOk.f a b s = some (okV a b s.data.toList) := specValueOk_is a b s
/-- The eight bytes of a number. -/
def be8 (n : Int) : List UInt8 := [u8 (n / 72057594037927936 % 256), u8 (n / 281474976710656 % 256), u8 (n / 1099511627776 % 256), u8 (n / 4294967296 % 256), u8 (n / 16777216 % 256), u8 (n / 65536 % 256), u8 (n / 256 % 256), u8 (n % 256)]
/-- The bytes of a value. -/
def encV (a b : Int) (s : List UInt8) : List UInt8 := if okV a b s = true then (if a = 1 then 1 :: be8 b else if a = 2 then [2, u8 b] else if a = 3 then 3 :: u8 (s.length : Int) :: s else [0]) else []
theorem specPutLoop_is (b : Int) (s : ByteArray) (hs : s.size ≤ 1048576) (a : Int) (ys : List Int) (hy : ys.length ≤ 10) : Ev (fun k => spec_PutValue.l0 k ys (IntKind.u64.wrap b) 72057594037927936 0 a b s) (mkB (ys.map u8 ++ be8 b) ++ s) := by
  have hu : IntKind.u64.wrap b = b % 18446744073709551616 := by simp [IntKind.wrap, IntKind.bits, IntKind.signed]
  rw [hu]
  obtain ⟨u, hu⟩ : ∃ u, u = b % 18446744073709551616 := ⟨_, rfl⟩
  rw [← hu]
  have hu0 : 0 ≤ u := by omega
  have hu1 : u < 18446744073709551616 := by omega
  have step : ∀ (zs : List Int) (w w' : Int) (i : Nat) (r : ByteArray), zs.length ≤ 20 → i < 8 → 0 < w → w < 18446744073709551616 → w' = w / 256 → Ev (fun k => spec_PutValue.l0 k (zs ++ [u / w % 256]) u w' ((i + 1 : Nat) : Int) a b s) r → Ev (fun k => spec_PutValue.l0 k zs u w (i : Int) a b s) r := by
    intro zs w w' i r hz hi hw hw2 hw' h
    refine Ev.step (fun k => rfl) (ev_if_pos (by omega) (ev_if_neg (by omega) (ev_if_pos (by omega) ?_)))
    have e1 : IntKind.u64.wrap (Int.tdiv u w) = u / w := by
      rw [Int.tdiv_eq_ediv_of_nonneg hu0]
      have h1 : 0 ≤ u / w := Int.ediv_nonneg hu0 (by omega)
      have h2 : u / w ≤ u := Int.ediv_le_self _ hu0
      simp only [IntKind.wrap, IntKind.bits, IntKind.signed]
      simp
      omega
    have e2 : IntKind.u64.wrap (Int.tdiv w 256) = w' := by
      rw [Int.tdiv_eq_ediv_of_nonneg (by omega), hw']
      simp only [IntKind.wrap, IntKind.bits, IntKind.signed]
      simp
      omega
    have e3 : Int.tmod (u / w) 256 % 256 = u / w % 256 := by
      rw [Int.tmod_eq_emod_of_nonneg (Int.ediv_nonneg hu0 (by omega))]
      omega
    have e4 : wrap64 ((i : Int) + 1) = ((i + 1 : Nat) : Int) := wrap_succ hi (by omega)
    rw [e1, e2, e3, e4]
    exact h
  refine step _ _ 281474976710656 0 _ (by omega) (by omega) (by omega) (by omega) (by omega) ?_
  refine step _ _ 1099511627776 1 _ (by simp; omega) (by omega) (by omega) (by omega) (by omega) ?_
  refine step _ _ 4294967296 2 _ (by simp; omega) (by omega) (by omega) (by omega) (by omega) ?_
  refine step _ _ 16777216 3 _ (by simp; omega) (by omega) (by omega) (by omega) (by omega) ?_
  refine step _ _ 65536 4 _ (by simp; omega) (by omega) (by omega) (by omega) (by omega) ?_
  refine step _ _ 256 5 _ (by simp; omega) (by omega) (by omega) (by omega) (by omega) ?_
  refine step _ _ 1 6 _ (by simp; omega) (by omega) (by omega) (by omega) (by omega) ?_
  refine step _ _ 0 7 _ (by simp; omega) (by omega) (by omega) (by omega) (by omega) ?_
  refine Ev.step (fun k => rfl) (ev_if_neg (by omega) (ev_if_pos ?_ (ev_conv (ev_some fun _ => rfl) ?_)))
  · rw [strOfNums_size]
    simp
    omega
  · rw [strOfNums_mk]
    congr 2
    simp only [List.map_append, List.map_cons, List.map_nil, List.append_assoc, List.cons_append, List.nil_append, be8]
    congr 1
    have g : ∀ x y : Int, x = y → u8 x = u8 y := fun x y h => by rw [h]
    simp only [List.cons.injEq, and_true]
    refine ⟨g _ _ (by omega), g _ _ (by omega), g _ _ (by omega), g _ _ (by omega), g _ _ (by omega), g _ _ (by omega), g _ _ (by omega), g _ _ (by omega)⟩
theorem specPutValue_is (a b : Int) (s : ByteArray) (hs : s.size ≤ 1048576) : Ev (fun k => spec_PutValue.f k a b s) (mkB (encV a b s.data.toList)) := by
  refine Ev.congr (fun k => rfl) (ev_bind0 (specValueOk_is a b s) ?_)
  unfold encV
  cases hk : okV a b s.data.toList with
  | false => exact ev_if_neg (by simp) (ev_conv (ev_some fun _ => rfl) rfl)
  | true =>
    refine ev_if_pos rfl (ev_bind0 rfl ?_)
    simp only [if_true]
    by_cases h1 : a = 1
    · subst h1
      have hs0 : s.data.toList = [] := by simpa [okV] using hk
      refine ev_if_pos rfl (ev_conv (specPutLoop_is b s hs 1 _ (by simp)) ?_)
      rw [← mkB_of s, hs0, mkB_append]
      rfl
    · refine ev_if_neg h1 ?_
      rw [if_neg h1]
      by_cases h2 : a = 2
      · subst h2
        have hs0 : s.data.toList = [] := by have := hk; simp [okV] at this; simpa using this.2
        have hb : 0 ≤ b ∧ b ≤ 1 := by have := hk; simp [okV] at this; exact this.1
        refine ev_if_pos rfl (ev_if_pos (by simp) (ev_bind0 rfl (ev_if_pos (by rw [strOfNums_size]; simp; omega) (ev_conv (ev_some fun _ => rfl) ?_))))
        rw [if_pos rfl, strOfNums_mk, ← mkB_of s, hs0, mkB_append]
        have e : b % 256 = b := by omega
        rw [e]
        rfl
      · refine ev_if_neg h2 ?_
        rw [if_neg h2]
        by_cases h3 : a = 3
        · subst h3
          have hl : s.data.toList.length ≤ 100 := by have := hk; simp [okV] at this; simpa using this.2
          refine ev_if_pos rfl (ev_if_pos (by simp) (ev_bind0 rfl (ev_if_pos (by rw [strOfNums_size]; simp; omega) (ev_conv (ev_some fun _ => rfl) ?_))))
          rw [if_pos rfl, strOfNums_mk]
          have e : ((s.size : Int)) % 256 = (s.data.toList.length : Int) := by rw [size_data]; omega
          rw [e]
          conv => lhs; rw [← mkB_of s]
          rw [mkB_append]
          rfl
        · refine ev_if_neg h3 (ev_if_pos (by rw [strOfNums_size]; simp; omega) (ev_conv (ev_some fun _ => rfl) ?_))
          rw [if_neg h3]
          have h0 : a = 0 := by
            by_cases h0 : a = 0
            · exact h0
            · simp [okV, h0, h1, h2, h3] at hk
          have hs0 : s.data.toList = [] := by have := hk; simp [okV, h0] at this; simpa using this.2
          rw [strOfNums_mk, ← mkB_of s, hs0, mkB_append, h0]
          rfl
theorem bigStep_eq (n : Int) (c : UInt8) : bigStep n c = bits .or .i64 (wrap64 (n * 256)) (c.toNat : Int) := rfl
theorem bigFold_snoc (l : List UInt8) (c : UInt8) (ih : l.foldl bigStep 0 = wrap64 (beN l : Int)) : (l ++ [c]).foldl bigStep 0 = wrap64 (beN (l ++ [c]) : Int) := by
  have e : ((beN l * 256 + c.toNat : Nat) : Int) = (beN l : Int) * 256 + (c.toNat : Int) := by omega
  rw [List.foldl_append, ih, beN_snoc, e, List.foldl_cons, List.foldl_nil, bigStep_eq]
  exact be_step _ _ c.toNat_lt
theorem bigFold_nil : ([] : List UInt8).foldl bigStep 0 = wrap64 (beN [] : Int) := by
  rw [beN_nil, List.foldl_nil]
  unfold wrap64
  omega
theorem bigFold_is (l : List UInt8) : l.foldl bigStep 0 = wrap64 (beN l : Int) :=
  snoc_ind (p := fun l => l.foldl bigStep 0 = wrap64 (beN l : Int)) bigFold_nil bigFold_snoc l
theorem bigPre_is (l : List UInt8) : bigPre (mkB l) (mkB l).size = wrap64 (beN l : Int) := by
  unfold bigPre
  rw [mkB_size, mkB_data, List.take_length, bigFold_is]
theorem bigOf_is (l : List UInt8) (hl : l.length ≤ 9223372036854775807) : impl_bigOf.f (mkB l) = some (wrap64 (beN l : Int)) := by
  unfold impl_bigOf.f
  have h : (mkB l).size ≤ 9223372036854775807 := by rw [mkB_size]; exact hl
  rw [if_pos h, bigPre_is]
theorem wrap_zero : wrap64 (beN [] : Int) = 0 := by
  rw [beN_nil]
  unfold wrap64
  omega
theorem bigOf_nil : impl_bigOf.f (mkB []) = some 0 := by
  rw [bigOf_is [] (Nat.zero_le _), wrap_zero]
theorem take_bad (s : ByteArray) (i n : Int) : impl_reader_take.f s i true n = some (mkB [], s, i, true) := by
  unfold impl_reader_take.f
  rw [if_pos rfl]
  rfl
theorem take_short (s : ByteArray) (i n : Nat) (hi : i ≤ s.size) (hs : s.size ≤ 1099511627776) (h : s.size < i + n) (hn : n ≤ 1099511627776) : impl_reader_take.f s i false n = some (mkB [], s, (i : Int), true) := by
  unfold impl_reader_take.f
  rw [if_neg (by simp), wrap_id (x := (s.size : Int) - (i : Int)) (by omega) (by omega), if_pos (by omega)]
  rfl
theorem take_ok (s : ByteArray) (i n : Nat) (hs : s.size ≤ 1099511627776) (h : i + n ≤ s.size) : impl_reader_take.f s i false n = some (mkB ((s.data.toList.drop i).take n), s, ((i + n : Nat) : Int), false) := by
  have e1 : wrap64 ((i : Int) + (n : Int)) = ((i + n : Nat) : Int) := by rw [wrap_id (by omega) (by omega)]; omega
  have e2 : wrap64 (((i + n : Nat) : Int) - (n : Int)) = (i : Int) := by rw [wrap_id (by omega) (by omega)]; omega
  unfold impl_reader_take.f
  rw [if_neg (by simp), wrap_id (x := (s.size : Int) - (i : Int)) (by omega) (by omega), if_neg (by omega)]
  simp only [e1, e2]
  rw [if_pos (by omega), if_pos (by omega), if_pos (by omega), extract_mk, Int.toNat_natCast, Int.toNat_natCast, show i + n - i = n by omega]
theorem size_bad (s : ByteArray) (i n : Int) : impl_reader_size.f s i true n = some (0, s, i, true) := by
  unfold impl_reader_size.f
  rw [take_bad]
  simp only [Option.bind_some]
  rw [bigOf_nil]
  rfl
theorem size_short (s : ByteArray) (i n : Nat) (hi : i ≤ s.size) (hs : s.size ≤ 1099511627776) (h : s.size < i + n) (hn : n ≤ 1099511627776) : impl_reader_size.f s i false n = some (0, s, (i : Int), true) := by
  unfold impl_reader_size.f
  rw [take_short s i n hi hs h hn]
  simp only [Option.bind_some]
  rw [bigOf_nil]
  rfl
theorem size_ok (s : ByteArray) (i n : Nat) (hs : s.size ≤ 1099511627776) (h : i + n ≤ s.size) : impl_reader_size.f s i false n = some (wrap64 (beN ((s.data.toList.drop i).take n) : Int), s, ((i + n : Nat) : Int), false) := by
  unfold impl_reader_size.f
  rw [take_ok s i n hs h]
  simp only [Option.bind_some]
  have hl : ((s.data.toList.drop i).take n).length ≤ n := List.length_take_le _ _
  rw [bigOf_is _ (by omega)]
  rfl
theorem value_bad (s : ByteArray) (i : Int) : impl_reader_value.f s i true = some (0, 0, mkB [], s, i, true) := by
  unfold impl_reader_value.f
  rw [size_bad]
  simp
  rfl
theorem drop_cons_at {s : ByteArray} {i : Nat} {c : UInt8} {t : List UInt8} (h : s.data.toList.drop i = c :: t) : i < s.size ∧ s.data.toList.drop (i + 1) = t ∧ t.length = s.size - i - 1 := by
  have h1 := congrArg List.length h
  rw [List.length_drop, ← size_data, List.length_cons] at h1
  have h2 : s.data.toList.drop (i + 1) = t := by
    have := congrArg (List.drop 1) h
    rwa [List.drop_drop] at this
  exact ⟨by omega, h2, by omega⟩
theorem wrap_byte (c : UInt8) : wrap64 (c.toNat : Int) = (c.toNat : Int) := by have := c.toNat_lt; exact wrap_id (by omega) (by omega)
theorem value_is (s : ByteArray) (i : Nat) (hi : i ≤ s.size) (hs : s.size ≤ 1099511627000) :
    (∃ a b x n, getV (s.data.toList.drop i) = some ((a, b, x), n) ∧ impl_reader_value.f s i false = some (a, b, mkB x, s, ((i + n : Nat) : Int), false) ∧ i + n ≤ s.size) ∨
    (getV (s.data.toList.drop i) = none ∧ ∃ (a b : Int) (x : ByteArray) (j : Nat), impl_reader_value.f s i false = some (a, b, x, s, (j : Int), true) ∧ j ≤ s.size) := by
  cases hd : s.data.toList.drop i with
  | nil =>
    have hl := congrArg List.length hd
    rw [List.length_drop, ← size_data, List.length_nil] at hl
    refine .inr ⟨rfl, 0, 0, mkB [], i, ?_, hi⟩
    unfold impl_reader_value.f
    rw [show (1 : Int) = ((1 : Nat) : Int) from rfl, size_short s i 1 hi (by omega) (by omega) (by omega)]
    simp
    rfl
  | cons c t =>
    obtain ⟨hlt, ht, htl⟩ := drop_cons_at hd
    have hc := c.toNat_lt
    have h1 : impl_reader_size.f s i false 1 = some ((c.toNat : Int), s, ((i + 1 : Nat) : Int), false) := by
      rw [show (1 : Int) = ((1 : Nat) : Int) from rfl, size_ok s i 1 (by omega) (by omega), hd]
      simp only [List.take_succ_cons, List.take_zero, beN_one, wrap_byte]
    unfold impl_reader_value.f getV
    rw [h1]
    simp only [Option.bind_some]
    by_cases c1 : c.toNat = 1
    · rw [if_pos (show (c.toNat : Int) = 1 by omega), if_pos c1]
      by_cases h8 : 8 ≤ t.length
      · rw [show (8 : Int) = ((8 : Nat) : Int) from rfl, size_ok s (i + 1) 8 (by omega) (by omega), ht, if_pos h8]
        simp only [Option.bind_some, implValueOk_is]
        refine .inl ⟨_, _, _, _, rfl, ?_, by omega⟩
        have ho : okV (c.toNat : Int) (wrap64 (beN (t.take 8) : Int)) (⟨#[]⟩ : ByteArray).data.toList = true := by simp [okV, c1]
        rw [ho]
        simp [c1]
        exact ⟨rfl, by omega⟩
      · rw [show (8 : Int) = ((8 : Nat) : Int) from rfl, size_short s (i + 1) 8 (by omega) (by omega) (by omega) (by omega), if_neg h8]
        exact .inr ⟨rfl, (c.toNat : Int), 0, ⟨#[]⟩, i + 1, by simp, by omega⟩
    · rw [if_neg (show ¬ (c.toNat : Int) = 1 by omega), if_neg c1]
      by_cases c2 : c.toNat = 2
      · rw [if_pos (show (c.toNat : Int) = 2 by omega), if_pos c2]
        cases t with
        | nil =>
          rw [show (1 : Int) = ((1 : Nat) : Int) from rfl, size_short s (i + 1) 1 (by omega) (by omega) (by simp at htl; omega) (by omega)]
          exact .inr ⟨rfl, (c.toNat : Int), 0, ⟨#[]⟩, i + 1, by simp, by omega⟩
        | cons b u =>
          rw [List.length_cons] at htl
          rw [show (1 : Int) = ((1 : Nat) : Int) from rfl, size_ok s (i + 1) 1 (by omega) (by omega), ht]
          simp only [List.take_succ_cons, List.take_zero, beN_one, wrap_byte, Option.bind_some, implValueOk_is]
          have ho : okV (c.toNat : Int) (b.toNat : Int) (⟨#[]⟩ : ByteArray).data.toList = decide (b.toNat ≤ 1) := by simp [okV, c2]; omega
          rw [ho]
          by_cases hb : b.toNat ≤ 1
          · rw [if_pos hb]
            exact .inl ⟨_, _, _, _, rfl, by simp [hb, c2]; exact ⟨rfl, by omega⟩, by omega⟩
          · rw [if_neg hb]
            exact .inr ⟨rfl, (c.toNat : Int), (b.toNat : Int), ⟨#[]⟩, i + 1 + 1, by simp [hb], by omega⟩
      · rw [if_neg (show ¬ (c.toNat : Int) = 2 by omega), if_neg c2]
        by_cases c3 : c.toNat = 3
        · rw [if_pos (show (c.toNat : Int) = 3 by omega), if_pos c3]
          cases t with
          | nil =>
            rw [show (1 : Int) = ((1 : Nat) : Int) from rfl, size_short s (i + 1) 1 (by omega) (by omega) (by simp at htl; omega) (by omega)]
            simp only [Option.bind_some, take_bad]
            exact .inr ⟨by first | rfl | trivial, (c.toNat : Int), 0, mkB [], i + 1, by simp, by omega⟩
          | cons m u =>
            rw [List.length_cons] at htl
            have hm := m.toNat_lt
            have hu : s.data.toList.drop (i + 1 + 1) = u := (drop_cons_at ht).2.1
            rw [show (1 : Int) = ((1 : Nat) : Int) from rfl, size_ok s (i + 1) 1 (by omega) (by omega), ht]
            simp only [List.take_succ_cons, List.take_zero, beN_one, wrap_byte, Option.bind_some]
            by_cases hl : m.toNat ≤ u.length
            · rw [take_ok s (i + 1 + 1) m.toNat (by omega) (by omega), hu]
              simp only [Option.bind_some, implValueOk_is, mkB_data]
              have ho : okV (c.toNat : Int) 0 (u.take m.toNat) = decide (m.toNat ≤ 100) := by simp [okV, c3]; omega
              rw [ho]
              by_cases hb : m.toNat ≤ 100
              · rw [if_pos ⟨hb, hl⟩]
                exact .inl ⟨_, _, _, _, rfl, by simp [hb, c3]; omega, by omega⟩
              · rw [if_neg (by omega)]
                exact .inr ⟨rfl, (c.toNat : Int), 0, mkB (u.take m.toNat), i + 1 + 1 + m.toNat, by simp [hb], by omega⟩
            · rw [take_short s (i + 1 + 1) m.toNat (by omega) (by omega) (by omega) (by omega), if_neg (by omega)]
              simp only [Option.bind_some]
              exact .inr ⟨by first | rfl | trivial, (c.toNat : Int), 0, mkB [], i + 1 + 1, by simp, by omega⟩
        · rw [if_neg (show ¬ (c.toNat : Int) = 3 by omega), if_neg c3]
          simp only [implValueOk_is, Option.bind_some]
          by_cases c0 : c.toNat = 0
          · rw [if_pos c0]
            have ho : okV (c.toNat : Int) 0 (⟨#[]⟩ : ByteArray).data.toList = true := by simp [okV, c0]
            rw [ho]
            exact .inl ⟨_, _, _, _, rfl, by simp [c0]; rfl, by omega⟩
          · rw [if_neg c0]
            have ho : okV (c.toNat : Int) 0 (⟨#[]⟩ : ByteArray).data.toList = false := by simp [okV, c0, c1, c2, c3]; omega
            rw [ho]
            exact .inr ⟨rfl, (c.toNat : Int), 0, ⟨#[]⟩, i + 1, by simp, by omega⟩
theorem bt_at' {s : ByteArray} {i : Nat} {c : UInt8} {t : List UInt8} (h : s.data.toList.drop i = c :: t) : bt s (i : Int) = (c.toNat : Int) := by
  rw [bt_data, Int.toNat_natCast]
  have : s.data.toList.getD i 0 = c := by
    have h2 := congrArg (fun l : List UInt8 => l.getD 0 0) h
    simpa [List.getD_eq_getElem?_getD, List.getElem?_drop] using h2
  rw [this]
theorem bt_off {s : ByteArray} {i : Nat} {t : List UInt8} (h : s.data.toList.drop (i + 1) = t) (m : Nat) : bt s ((i + 1 + m : Nat) : Int) = ((t.getD m 0).toNat : Int) := by
  rw [bt_data, Int.toNat_natCast, ← h]
  simp [List.getD_eq_getElem?_getD, List.getElem?_drop]
theorem specLoop_is (s : ByteArray) (i : Nat) (t : List UInt8) (ht : s.data.toList.drop (i + 1) = t) (hl : 8 ≤ t.length) (hs : s.size ≤ 1099511627000) (htl : t.length = s.size - i - 1) (hi : i < s.size) :
    ∀ (d m : Nat), m + d = 8 → Ev (fun k => spec_GetValue.l0 k s (i : Int) (beN (t.take m) : Int) ((m + 1 : Nat) : Int) 1 0 (⟨#[]⟩ : ByteArray)) (1, wrap64 (beN (t.take 8) : Int), mkB [], ((i + 9 : Nat) : Int)) := by
  intro d
  induction d with
  | zero =>
    intro m hm
    obtain rfl : m = 8 := by omega
    refine Ev.step (fun k => rfl) (ev_if_neg (by omega) (ev_bind0 (specValueOk_is _ _ _) ?_))
    have ho : okV 1 (wrap64 (beN (t.take 8) : Int)) (⟨#[]⟩ : ByteArray).data.toList = true := rfl
    rw [ho]
    refine ev_if_pos rfl (ev_conv (ev_some fun _ => rfl) ?_)
    rw [wrap_id (x := (i : Int) + 9) (by omega) (by omega)]
    rfl
  | succ d ih =>
    intro m hm
    have e1 : wrap64 ((i : Int) + ((m + 1 : Nat) : Int)) = ((i + 1 + m : Nat) : Int) := by rw [wrap_id (by omega) (by omega)]; omega
    have e2 : wrap64 (((m + 1 : Nat) : Int) + 1) = ((m + 1 + 1 : Nat) : Int) := by rw [wrap_id (by omega) (by omega)]; omega
    have hml : m < t.length := by omega
    have hlt : beN (t.take m) < 256 ^ 7 := by
      refine Nat.lt_of_lt_of_le (beN_lt _) (Nat.pow_le_pow_right (by omega) ?_)
      rw [List.length_take]
      omega
    have hc := (t.getD m 0).toNat_lt
    have e3 : IntKind.u64.wrap (IntKind.u64.wrap (256 * (beN (t.take m) : Int)) + IntKind.u64.wrap ((t.getD m 0).toNat : Int)) = (beN (t.take (m + 1)) : Int) := by
      rw [List.take_succ_eq_append_getElem hml, beN_snoc]
      have eg : t.getD m 0 = t[m] := by rw [List.getD_eq_getElem?_getD, List.getElem?_eq_getElem hml]; rfl
      rw [← eg]
      obtain ⟨C, hC⟩ : ∃ C, C = (t.getD m 0).toNat := ⟨_, rfl⟩
      rw [← hC] at hc ⊢
      simp only [IntKind.wrap, IntKind.bits, IntKind.signed]
      simp
      omega
    refine Ev.step (fun k => rfl) (ev_if_pos (by omega) ?_)
    rw [e1]
    refine ev_if_pos (by omega) (ev_if_pos (by omega) ?_)
    rw [bt_off ht m, e3, e2]
    exact ih (m + 1) (by omega)
set_option maxHeartbeats 2000000 in
theorem specGetValue_is (s : ByteArray) (i : Int) (hs : s.size ≤ 1099511627000) : Ev (fun k => spec_GetValue.f k s i) (getAt s i) := by
  have hn : Ev (fun _ : Nat => some ((0, 0, (⟨#[]⟩ : ByteArray), (-1)) : Int × Int × ByteArray × Int)) (0, 0, mkB [], -1) := ev_some fun _ => rfl
  have hw : wrap64 ((s.size : Int) - 1) = (s.size : Int) - 1 := wrap_id (by omega) (by omega)
  unfold getAt
  rcases (show i < 0 ∨ 0 ≤ i by omega) with h0 | h0
  · rw [if_neg (by omega)]
    refine ev_bind0 (a := false) ?_ (ev_if_neg (by simp) hn)
    unfold spec_l01In.f
    rw [if_neg (by omega)]
  obtain ⟨j, rfl⟩ := Int.eq_ofNat_of_zero_le h0
  rcases (show ¬ j < s.size ∨ j < s.size by omega) with h1 | h1
  · refine ev_bind0 (a := false) ?_ (ev_if_neg (by simp) ?_)
    · unfold spec_l01In.f
      rw [if_pos (by omega), hw]
      simp
      omega
    · by_cases h2 : (j : Int) ≤ (s.size : Int)
      · rw [if_pos ⟨by omega, h2⟩, Int.toNat_natCast, List.drop_of_length_le (by rw [← size_data]; omega)]
        exact hn
      · rw [if_neg (by omega)]
        exact hn
  rw [if_pos ⟨by omega, by omega⟩, Int.toNat_natCast]
  cases hd : s.data.toList.drop j with
  | nil =>
    have hl := congrArg List.length hd
    rw [List.length_drop, ← size_data, List.length_nil] at hl
    omega
  | cons c t =>
    obtain ⟨_, ht, htl⟩ := drop_cons_at hd
    have hc := c.toNat_lt
    have e0 : wrap64 (bt s (j : Int)) = (c.toNat : Int) := by rw [bt_at' hd]; exact wrap_byte c
    have eb : ∀ b u, t = b :: u → wrap64 (bt s (wrap64 ((j : Int) + 1))) = (b.toNat : Int) := by
      rintro b u rfl
      rw [wrap_id (x := (j : Int) + 1) (by omega) (by omega), show (j : Int) + 1 = ((j + 1 : Nat) : Int) by omega, bt_at' ht]
      exact wrap_byte b
    have ed : wrap64 ((s.size : Int) - (j : Int)) = ((t.length + 1 : Nat) : Int) := by rw [wrap_id (by omega) (by omega)]; omega
    have e1 : wrap64 ((j : Int) + 1) = ((j + 1 : Nat) : Int) := by rw [wrap_id (by omega) (by omega)]; omega
    have e2 : wrap64 ((j : Int) + 2) = ((j + 2 : Nat) : Int) := by rw [wrap_id (by omega) (by omega)]; omega
    -- behind the three guards
    have j3no : ∀ (a : Int), a ≠ 0 → Ev (fun k => spec_GetValue.j3 k s (j : Int) 1 false a 0 (⟨#[]⟩ : ByteArray)) (0, 0, mkB [], -1) := fun a ha =>
      Ev.step (fun k => rfl) (ev_if_neg ha hn)
    refine ev_bind0 (a := true) ?_ (ev_if_pos rfl (ev_if_pos (by omega) (ev_if_pos (by omega) ?_)))
    · unfold spec_l01In.f
      rw [if_pos (by omega), hw]
      simp
      omega
    rw [e0, ed]
    unfold getV
    dsimp only
    by_cases c1 : c.toNat = 1
    · rw [if_pos c1]
      refine ev_if_pos (by omega) ?_
      by_cases h8 : 8 ≤ t.length
      · rw [if_pos h8]
        refine Ev.step (fun k => rfl) (ev_if_pos (by simp; omega) ?_)
        rw [c1]
        exact ev_conv (specLoop_is s j t ht h8 hs htl (by omega) 8 0 (by omega)) rfl
      · rw [if_neg h8]
        refine Ev.step (fun k => rfl) (ev_if_neg (by simp; omega) (ev_if_neg (by omega) (Ev.step (fun k => rfl) (ev_if_neg (by omega) (j3no _ (by omega))))))
    rw [if_neg c1]
    refine ev_if_neg (by omega) (Ev.step (fun k => rfl) ?_)
    by_cases c2 : c.toNat = 2
    · rw [if_pos c2]
      refine ev_if_pos (by omega) ?_
      rw [ed]
      cases t with
      | nil =>
        exact Ev.step (fun k => rfl) (ev_if_neg (by omega) (j3no _ (by omega)))
      | cons b u =>
        rw [List.length_cons] at htl
        refine Ev.step (fun k => rfl) (ev_if_pos (by simp; omega) ?_)
        rw [eb b u rfl, e1, e2]
        refine ev_if_pos (by omega) (ev_if_pos (by omega) (ev_bind0 (specValueOk_is _ _ _) ?_))
        have ho : okV (c.toNat : Int) (b.toNat : Int) (⟨#[]⟩ : ByteArray).data.toList = decide (b.toNat ≤ 1) := by simp [okV, c2]; omega
        rw [ho]
        by_cases hb : b.toNat ≤ 1
        · exact ev_if_pos (by simp [hb]) (ev_conv (ev_some fun _ => rfl) (by simp [packV, hb, c2]; rfl))
        · exact ev_if_neg (by simp [hb]) (ev_conv hn (by simp [packV, hb]))
    rw [if_neg c2]
    refine ev_if_neg (by omega) (Ev.step (fun k => rfl) ?_)
    by_cases c3 : c.toNat = 3
    · rw [if_pos c3]
      refine ev_if_pos (by omega) ?_
      rw [ed]
      cases t with
      | nil => exact ev_if_neg (by simp) (j3no _ (by omega))
      | cons m u =>
        rw [List.length_cons] at htl ed ⊢
        have hm := m.toNat_lt
        have hu : s.data.toList.drop (j + 2) = u := (drop_cons_at ht).2.1
        have q1 : 0 ≤ ((j + 1 : Nat) : Int) := by omega
        have q2 : ((j + 1 : Nat) : Int) < (s.size : Int) := by omega
        have q3 : 0 ≤ ((j + 2 : Nat) : Int) := by omega
        have q4 : ((j + 2 : Nat) : Int) ≤ ((j + (2 + m.toNat) : Nat) : Int) := by omega
        have q5 : m.toNat ≤ u.length → ((j + (2 + m.toNat) : Nat) : Int) ≤ (s.size : Int) := by omega
        have q6 : m.toNat ≤ u.length → decide ((u.length : Int) ≥ (m.toNat : Int)) = true := fun h => decide_eq_true (by omega)
        have q7 : ¬ m.toNat ≤ u.length → decide ((u.length : Int) ≥ (m.toNat : Int)) = false := fun h => decide_eq_false (by omega)
        have q8 : (c.toNat : Int) ≠ 0 := by omega
        have q9 : ((u.length + 1 + 1 : Nat) : Int) ≥ 2 := by omega
        have e4 : wrap64 (((u.length + 1 + 1 : Nat) : Int) - 2) = (u.length : Int) := by rw [wrap_id (by omega) (by omega)]; omega
        have e5 : wrap64 ((j : Int) + wrap64 (2 + (m.toNat : Int))) = ((j + (2 + m.toNat) : Nat) : Int) := by rw [wrap_id (x := 2 + (m.toNat : Int)) (by omega) (by omega), wrap_id (by omega) (by omega)]; omega
        have e6 := eb m u rfl
        rw [e1] at e6
        refine ev_if_pos q9 ?_
        rw [e1, e4, e6]
        refine ev_if_pos q1 (ev_if_pos q2 ?_)
        by_cases hl : m.toNat ≤ u.length
        · refine Ev.step (fun k => rfl) (ev_if_pos (q6 hl) ?_)
          rw [e1, e6, e2, e5]
          refine ev_if_pos q1 (ev_if_pos q2 (ev_if_pos q3 (ev_if_pos q4 (ev_if_pos (q5 hl) (ev_bind0 (specValueOk_is _ _ _) ?_)))))
          have hx : s.extract ((j + 2 : Nat) : Int).toNat ((j + (2 + m.toNat) : Nat) : Int).toNat = mkB (u.take m.toNat) := by
            rw [extract_mk, Int.toNat_natCast, Int.toNat_natCast, hu, show j + (2 + m.toNat) - (j + 2) = m.toNat by omega]
          rw [hx, mkB_data]
          have ho : okV (c.toNat : Int) 0 (u.take m.toNat) = decide (m.toNat ≤ 100) := by simp [okV, c3]; omega
          rw [ho]
          by_cases hb : m.toNat ≤ 100
          · exact ev_if_pos (by simp [hb]) (ev_conv (ev_some fun _ => rfl) (by simp [packV, hb, hl, c3]))
          · exact ev_if_neg (by simp [hb]) (ev_conv hn (by simp [packV, hb]))
        · rw [q7 hl]
          exact ev_conv (j3no (c.toNat : Int) q8) (by simp [packV, hl])
    rw [if_neg c3]
    refine ev_if_neg (by omega) (Ev.step (fun k => rfl) ?_)
    by_cases c0 : c.toNat = 0
    · rw [if_pos c0]
      refine ev_if_pos (by omega) (ev_bind0 (specValueOk_is _ _ _) ?_)
      have ho : okV (c.toNat : Int) 0 (⟨#[]⟩ : ByteArray).data.toList = true := by simp [okV, c0]
      rw [ho]
      refine ev_if_pos rfl (ev_conv (ev_some fun _ => rfl) ?_)
      rw [e1]
      simp [packV, c0]
      rfl
    · rw [if_neg c0]
      exact ev_if_neg (by omega) hn
def cmpW (x y : S42) : Int := cmpV x.f0 x.f1 x.f2 y.f0 y.f1 y.f2
/-- The order of rows. -/
def cmpRow : List S42 → List S42 → Int
  | [], [] => 0
  | [], _ :: _ => -1
  | _ :: _, [] => 1
  | x :: xs, y :: ys => if cmpW x y = 0 then cmpRow xs ys else cmpW x y
theorem specCompareRow_tail (xs ys : List S42) (i : Nat) (h : i = xs.length ∨ i = ys.length) (h0 : i ≤ xs.length) (h1 : i ≤ ys.length) :
    (if (xs.length : Int) < (ys.length : Int) then (some (-1)) else (if (xs.length : Int) > (ys.length : Int) then (some 1) else (some 0))) = some (cmpRow (xs.drop i) (ys.drop i)) := by
  by_cases hx : i < xs.length
  · have hy : i = ys.length := by omega
    rw [if_neg (by omega), if_pos (by omega), drop_cons_getD z42 hx, show ys.drop i = [] from List.drop_eq_nil_of_le (by omega), cmpRow]
  · by_cases hy : i < ys.length
    · rw [if_pos (by omega), drop_cons_getD z42 hy, show xs.drop i = [] from List.drop_eq_nil_of_le (by omega), cmpRow]
    · rw [if_neg (by omega), if_neg (by omega), show xs.drop i = [] from List.drop_eq_nil_of_le (by omega), show ys.drop i = [] from List.drop_eq_nil_of_le (by omega), cmpRow]
theorem specCompareRow_loop (xs ys : List S42) (hn : xs.length ≤ 9223372036854775807) : ∀ (n i : Nat), xs.length - i = n → i ≤ xs.length → i ≤ ys.length → Ev (fun k => spec_CompareRow.l0 k xs ys i) (cmpRow (xs.drop i) (ys.drop i)) := by
  intro n
  induction n with
  | zero =>
    intro i h1 h2 h3
    refine Ev.step (fun k => rfl) (ev_if_neg (by omega) (Ev.step (fun k => rfl) (ev_some fun _ => specCompareRow_tail xs ys i (.inl (by omega)) h2 h3)))
  | succ n ih =>
    intro i h1 h2 h3
    have hi : i < xs.length := by omega
    refine Ev.step (fun k => rfl) (ev_if_pos (by omega) (Ev.step (fun k => rfl) ?_))
    by_cases hy : i < ys.length
    · refine ev_if_pos (decide_eq_true (by omega)) (ev_if_pos (by omega) (ev_if_pos (by omega) (ev_if_pos (by omega) ?_)))
      refine ev_bind0 (a := cmpW (xs.getD i z42) (ys.getD i z42)) (by rw [← Int.toNat_natCast i]; rfl) ?_
      rw [wrap_succ hi hn, drop_cons_getD z42 hi, drop_cons_getD z42 hy, cmpRow]
      by_cases hc : cmpW (xs.getD i z42) (ys.getD i z42) = 0
      · rw [if_pos hc]
        exact ev_if_pos hc (ih (i + 1) (by omega) (by omega) (by omega))
      · rw [if_neg hc]
        exact ev_if_neg hc (ev_some fun _ => rfl)
    · exact ev_if_neg (by simpa using hy) (ev_some fun _ => specCompareRow_tail xs ys i (.inr (by omega)) h2 h3)
theorem specCompareRow_is (xs ys : List S42) (hn : xs.length ≤ 9223372036854775807) : Ev (fun k => spec_CompareRow.f k xs ys) (cmpRow xs ys) := specCompareRow_loop xs ys hn xs.length 0 rfl (Nat.zero_le _) (Nat.zero_le _)
theorem implCompareRow_is4 (k : Nat) : ∀ xs ys, impl_CompareRow.f (k + 4) xs ys = some (cmpRow xs ys)
  | [], [] => rfl
  | [], _ :: _ => rfl
  | _ :: _, [] => rfl
  | x :: xs, y :: ys => by
    have ih := implCompareRow_is4 k xs ys
    unfold impl_CompareRow.f at ih ⊢
    rw [cmpO, compareValue_is, Option.bind_some, cmpRow, ih]
    show (if cmpW x y = 0 then _ else some (cmpW x y)) = _
    by_cases hc : cmpW x y = 0 <;> simp [hc]
theorem implCompareRow_is (xs ys : List S42) : Ev (fun k => impl_CompareRow.f k xs ys) (cmpRow xs ys) := ⟨4, fun k hk => by
  obtain ⟨m, rfl⟩ : ∃ m, k = m + 4 := ⟨k - 4, by omega⟩
  exact implCompareRow_is4 m xs ys⟩
/-- A row of values, so many. -/
def RowP (xs : List S42) (w : Int) : Prop := (∀ x ∈ xs, okV x.f0 x.f1 x.f2.data.toList = true) ∧ (xs.length : Int) = w
theorem l01In_is (a b c : Int) : spec_l01In.f a b c = some (decide (b ≤ a ∧ a ≤ c)) := by
  unfold spec_l01In.f
  by_cases h : a ≥ b
  · rw [if_pos h]
    by_cases h' : a ≤ c <;> simp [h', show b ≤ a from h]
  · rw [if_neg h, decide_eq_false (by omega)]
theorem spec_row_is (xs : List S42) (w : Int) (hn : xs.length ≤ 9223372036854775807) (r : Bool) (hr : r = true ↔ RowP xs w) : Ev (fun k => spec_l02Row.f k xs w) r := by
  refine all_loop xs.length (fun k i => spec_l02Row.l0 k xs w i) (fun j => okV (xs.getD j z42).f0 (xs.getD j z42).f1 (xs.getD j z42).f2.data.toList = true) ((xs.length : Int) = w) ?_ ?_ r (hr.trans ?_)
  · intro r hr
    refine Ev.step (fun k => rfl) (ev_if_neg (by omega) (ev_some fun _ => ?_))
    congr 1
    rw [Bool.eq_iff_iff, hr, beq_iff_eq]
  · intro i hi r next no
    refine Ev.step (fun k => rfl) (ev_if_pos (by omega) (ev_if_pos (by omega) (ev_bind0 (specValueOk_is _ _ _) ?_)))
    rw [wrap_succ hi hn]
    by_cases h : okV (xs.getD i z42).f0 (xs.getD i z42).f1 (xs.getD i z42).f2.data.toList = true
    · exact ev_if_pos h (next h)
    · exact ev_if_neg h (ev_conv (ev_some fun _ => rfl) (no h).symm)
  · unfold RowP
    rw [forall_getD z42 (p := fun x => okV x.f0 x.f1 x.f2.data.toList = true)]
theorem allO_eq {α : Type} {f : α → Option Bool} {g : α → Bool} : ∀ {xs : List α}, (∀ x ∈ xs, f x = some (g x)) → allO f xs = some (xs.all g)
  | [], _ => rfl
  | x :: xs, h => by
    rw [allO, h x (List.mem_cons_self ..), Option.bind_some, List.all_cons]
    cases g x with
    | false => rfl
    | true => rw [if_pos rfl, allO_eq fun y hy => h y (List.mem_cons_of_mem _ hy), Bool.true_and]
theorem allO_ev {α : Type} {f : Nat → α → Option Bool} {g : α → Bool} : ∀ {xs : List α}, (∀ x ∈ xs, Ev (fun k => f k x) (g x)) → Ev (fun k => allO (f k) xs) (xs.all g)
  | [], _ => ev_some fun _ => rfl
  | x :: xs, h => by
    refine Ev.bind (h x (List.mem_cons_self ..)) (f := fun k b => if b = true then allO (f k) xs else some false) ?_
    rw [List.all_cons]
    cases hg : g x with
    | false => exact ev_if_neg (by simp) (ev_some fun _ => rfl)
    | true => exact ev_if_pos rfl (ev_conv (allO_ev fun y hy => h y (List.mem_cons_of_mem _ hy)) (Bool.true_and _).symm)
theorem within_is (a b c : Int) : impl_within.f a b c = some (decide (b ≤ a ∧ a ≤ c)) := by
  unfold impl_within.f
  by_cases h : b ≤ a
  · rw [if_pos h]
    by_cases h' : a ≤ c <;> simp [h', h]
  · rw [if_neg h, decide_eq_false (by omega)]
theorem impl_row_is (xs : List S42) (w : Int) (r : Bool) (hr : r = true ↔ RowP xs w) : impl_isRow.f xs w = some r := by
  unfold impl_isRow.f
  by_cases h : (xs.length : Int) = w
  · rw [if_pos h, allO_eq (g := fun x => okV x.f0 x.f1 x.f2.data.toList) fun x _ => implValueOk_is _ _ _]
    congr 1
    rw [Bool.eq_iff_iff, hr, List.all_eq_true]
    exact ⟨fun g => ⟨g, h⟩, fun g => g.1⟩
  · rw [if_neg h]
    cases r with
    | false => rfl
    | true => exact absurd (hr.1 rfl).2 h
def CntP (w : Int) (xs : List S46) (j : Nat) : Prop :=
  RowP (xs.getD j z46).f0 w ∧ (xs.getD j z46).f1 ≠ 0 ∧ (-1000000000 ≤ (xs.getD j z46).f1 ∧ (xs.getD j z46).f1 ≤ 1000000000) ∧ (0 < j → cmpRow (xs.getD (j - 1) z46).f0 (xs.getD j z46).f0 < 0)
/-- A bag. -/
def BagP (w : Int) (xs : List S46) : Prop := (∀ j, j < xs.length → CntP w xs j) ∧ (0 ≤ w ∧ w ≤ 12) ∧ xs.length ≤ 400
open Classical in
theorem spec_bagOk_is (w : Int) (xs : List S46) (hn : xs.length ≤ 1048576) (hx : ∀ x ∈ xs, x.f0.length ≤ 1048576) (r : Bool) (hr : r = true ↔ BagP w xs) : Ev (fun k => spec_BagOk.f k w xs) r := by
  refine all_loop xs.length (fun k i => spec_BagOk.l0 k i w xs) (CntP w xs) ((0 ≤ w ∧ w ≤ 12) ∧ xs.length ≤ 400) ?_ ?_ r hr
  · intro r hr
    refine Ev.step (fun k => rfl) (ev_if_neg (by omega) (ev_some fun _ => ?_))
    rw [l01In_is, Option.bind_some]
    by_cases h : 0 ≤ w ∧ w ≤ 12
    · rw [if_pos (decide_eq_true h)]
      congr 1
      rw [Bool.eq_iff_iff, hr, decide_eq_true_eq]
      exact ⟨fun g => ⟨h, by omega⟩, fun g => by have := g.2; omega⟩
    · rw [if_neg (by simpa using h)]
      cases r with
      | false => rfl
      | true => exact absurd (hr.1 rfl).1 h
  · intro i hi r next no
    have len : ∀ j, j < xs.length → (xs.getD j z46).f0.length ≤ 9223372036854775807 := fun j hj => Nat.le_trans (hx _ (getD_mem _ hj)) (by omega)
    have stop : ¬ CntP w xs i → Ev (fun _ : Nat => some false) r := fun g => ev_conv (ev_some fun _ => rfl) (no g).symm
    refine Ev.step (fun k => rfl) (ev_if_pos (by omega) (ev_if_pos (by omega) (Ev.bind (spec_row_is (xs.getD i z46).f0 w (len i hi) (decide (RowP (xs.getD i z46).f0 w)) decide_eq_true_iff) ?_)))
    by_cases h1 : RowP (xs.getD i z46).f0 w
    case neg => exact ev_if_neg (by simpa using h1) (stop fun g => h1 g.1)
    refine ev_if_pos (decide_eq_true h1) ?_
    by_cases h2 : (xs.getD i z46).f1 = 0
    case pos => exact ev_if_pos h2 (stop fun g => g.2.1 h2)
    refine ev_if_neg h2 (ev_bind0 (l01In_is _ _ _) ?_)
    by_cases h3 : -1000000000 ≤ (xs.getD i z46).f1 ∧ (xs.getD i z46).f1 ≤ 1000000000
    case neg => exact ev_if_neg (by rw [decide_eq_true_eq]; exact h3) (stop fun g => h3 g.2.2.1)
    refine ev_if_pos (decide_eq_true h3) ?_
    rw [wrap_succ hi (by omega)]
    by_cases h4 : 0 < i
    case neg => exact ev_if_neg (by omega) (next ⟨h1, h2, h3, fun g => absurd g h4⟩)
    rw [wrap_pred h4 (by omega)]
    refine ev_if_pos (by omega) (ev_if_pos (by omega) (ev_if_pos (by omega) (Ev.bind (specCompareRow_is (xs.getD (i - 1) z46).f0 (xs.getD i z46).f0 (len (i - 1) (by omega))) ?_)))
    by_cases h5 : cmpRow (xs.getD (i - 1) z46).f0 (xs.getD i z46).f0 ≥ 0
    · exact ev_if_pos h5 (stop fun g => by have := g.2.2.2 h4; omega)
    · exact ev_if_neg h5 (next ⟨h1, h2, h3, fun _ => by omega⟩)
open Classical in
theorem impl_bagOk_is (w : Int) (xs : List S46) (hn : xs.length ≤ 1048576) (r : Bool) (hr : r = true ↔ BagP w xs) : Ev (fun k => impl_BagOk.f k w xs) r := by
  unfold impl_BagOk.f
  rw [within_is]
  refine Ev.congr (fun k => Option.bind_some _ _) ?_
  have no : ¬ BagP w xs → r = false := fun h => by
    cases r with
    | false => rfl
    | true => exact absurd (hr.1 rfl) h
  by_cases hw : 0 ≤ w ∧ w ≤ 12
  case neg => exact ev_if_neg (by rw [decide_eq_true_eq]; exact hw) (Ev.step (fun k => rfl) (ev_conv (ev_some fun _ => rfl) (no fun g => hw g.2.1).symm))
  refine ev_if_pos (decide_eq_true hw) ?_
  by_cases hl : (xs.length : Int) > 400
  case pos => exact Ev.step (fun k => rfl) (ev_if_pos (decide_eq_true hl) (ev_conv (ev_some fun _ => rfl) (no fun g => by have := g.2.2; omega).symm))
  refine Ev.step (fun k => rfl) (ev_if_neg (by rw [decide_eq_true_eq]; exact hl) ?_)
  refine all_loop xs.length (fun k i => impl_BagOk.l0 k xs (xs.length : Int) i w xs) (CntP w xs) True ?_ ?_ r (hr.trans ⟨fun g => ⟨g.1, trivial⟩, fun g => ⟨g.1, hw, by omega⟩⟩)
  · intro r hr
    exact Ev.step (fun k => rfl) (ev_if_neg (by omega) (ev_conv (ev_some fun _ => rfl) (hr.2 trivial).symm))
  · intro i hi r next no
    have stop : ¬ CntP w xs i → Ev (fun _ : Nat => some false) r := fun g => ev_conv (ev_some fun _ => rfl) (no g).symm
    refine Ev.step (fun k => rfl) (ev_if_pos (by omega) (ev_if_pos (by omega) (ev_if_pos (by omega) (ev_bind0 (impl_row_is (xs.getD i z46).f0 w (decide (RowP (xs.getD i z46).f0 w)) decide_eq_true_iff) ?_))))
    by_cases h1 : RowP (xs.getD i z46).f0 w
    case neg => exact ev_if_neg (by simpa using h1) (stop fun g => h1 g.1)
    refine ev_if_pos (decide_eq_true h1) ?_
    by_cases h2 : (xs.getD i z46).f1 = 0
    case pos => exact ev_if_pos h2 (stop fun g => g.2.1 h2)
    refine ev_if_neg h2 (ev_bind0 (within_is _ _ _) ?_)
    by_cases h3 : -1000000000 ≤ (xs.getD i z46).f1 ∧ (xs.getD i z46).f1 ≤ 1000000000
    case neg => exact ev_if_neg (by rw [decide_eq_true_eq]; exact h3) (stop fun g => h3 g.2.2.1)
    refine ev_if_pos (decide_eq_true h3) ?_
    rw [wrap_succ hi (by omega)]
    by_cases h4 : 0 < i
    case neg => exact ev_if_neg (by omega) (next ⟨h1, h2, h3, fun g => absurd g h4⟩)
    rw [wrap_pred h4 (by omega)]
    refine ev_if_pos (by omega) (ev_if_pos (by omega) (ev_if_pos (by omega) (Ev.bind (implCompareRow_is (xs.getD (i - 1) z46).f0 (xs.getD i z46).f0) ?_)))
    by_cases h5 : cmpRow (xs.getD (i - 1) z46).f0 (xs.getD i z46).f0 ≥ 0
    · exact ev_if_pos h5 (stop fun g => by have := g.2.2.2 h4; omega)
    · exact ev_if_neg h5 (next ⟨h1, h2, h3, fun _ => by omega⟩)
/-! #### the bytes of a bag -/
theorem okV_size {a b : Int} {s : List UInt8} (h : okV a b s = true) : s.length ≤ 100 := by
  unfold okV at h
  by_cases h0 : a = 0
  · rw [if_pos h0, Bool.and_eq_true, List.isEmpty_iff] at h
    rw [h.2]; simp
  rw [if_neg h0] at h
  by_cases h1 : a = 1
  · rw [if_pos h1, List.isEmpty_iff] at h
    rw [h]; simp
  rw [if_neg h1] at h
  by_cases h2 : a = 2
  · rw [if_pos h2, Bool.and_eq_true, List.isEmpty_iff] at h
    rw [h.2]; simp
  rw [if_neg h2] at h
  by_cases h3 : a = 3
  · rw [if_pos h3, Bool.and_eq_true, decide_eq_true_eq] at h
    exact h.2
  · rw [if_neg h3] at h
    cases h
theorem encV_le {a b : Int} {s : List UInt8} (h : s.length ≤ 100) : (encV a b s).length ≤ 110 := by
  unfold encV
  by_cases ok : okV a b s = true
  · rw [if_pos ok]
    by_cases h1 : a = 1
    · rw [if_pos h1]; simp [be8]
    rw [if_neg h1]
    by_cases h2 : a = 2
    · rw [if_pos h2]; simp
    rw [if_neg h2]
    by_cases h3 : a = 3
    · rw [if_pos h3]; simp; omega
    · rw [if_neg h3]; simp
  · rw [if_neg ok]; simp
def encX (x : S42) : List UInt8 := encV x.f0 x.f1 x.f2.data.toList
def encC (c : S46) : List UInt8 := encV 1 c.f1 [] ++ c.f0.flatMap encX
def smallC (c : S46) : Prop := c.f0.length ≤ 12 ∧ ∀ v ∈ c.f0, v.f2.data.toList.length ≤ 100
theorem flat_le {α : Type} (f : α → List UInt8) (b : Nat) : ∀ (l : List α), (∀ x ∈ l, (f x).length ≤ b) → (l.flatMap f).length ≤ l.length * b
  | [], _ => by simp
  | x :: l, h => by
    have h1 := h x (by simp)
    have h2 := flat_le f b l fun y hy => h y (by simp [hy])
    rw [List.flatMap_cons, List.length_append, List.length_cons, Nat.add_mul]
    omega
theorem bytesOf_u8 (l : List UInt8) : (bytesOf (mkB l)).map u8 = l := by
  unfold bytesOf
  rw [mkB_data, List.map_map]
  have : ∀ c : UInt8, (u8 ∘ fun b : UInt8 => (b.toNat : Int)) c = c := fun c => by
    show u8 (c.toNat : Int) = c
    unfold u8
    rw [Int.toNat_natCast]
    exact UInt8.toNat_inj.1 (by rw [UInt8.toNat_ofNat']; have := c.toNat_lt; omega)
  rw [show (u8 ∘ fun b : UInt8 => (b.toNat : Int)) = id from funext this, List.map_id]
theorem bytesOf_len (l : List UInt8) : (bytesOf (mkB l)).length = l.length := by unfold bytesOf; rw [mkB_data, List.length_map]
theorem specRow_loop (w : Int) (xs : List S46) (i : Nat) (hi : i < xs.length) (hs : smallC (xs.getD i z46)) (rest : List UInt8) (B : Nat) (hB : B ≤ 1000000000)
    (hF : ∀ acc : List Int, acc.length ≤ B → Ev (fun k => spec_PutBag.l0 k acc (wrap64 ((i : Int) + 1)) w xs) (mkB (acc.map u8 ++ rest))) :
    ∀ (n j : Nat) (acc : List Int), (xs.getD i z46).f0.length - j = n → j ≤ (xs.getD i z46).f0.length → acc.length + n * 110 ≤ B → Ev (fun k => spec_PutBag.l1 k acc (i : Int) (j : Int) w xs) (mkB (acc.map u8 ++ (((xs.getD i z46).f0.drop j).flatMap encX ++ rest))) := by
  have h0 : 0 ≤ (i : Int) := by omega
  have h1' : (i : Int) < (xs.length : Int) := by omega
  have e : (rd_T46 xs (i : Int)) = xs.getD i z46 := rfl
  obtain ⟨s1, s2⟩ := hs
  intro n
  induction n with
  | zero =>
    intro j acc h1 h2 h3
    refine Ev.step (fun k => rfl) (ev_if_pos h0 (ev_if_pos h1' ?_))
    rw [e]
    refine ev_if_neg (by omega) ?_
    rw [List.drop_of_length_le (by omega)]
    exact hF acc (by omega)
  | succ n ih =>
    intro j acc h1 h2 h3
    have hj : j < (xs.getD i z46).f0.length := by omega
    have hv := s2 _ (getD_mem z42 hj)
    have hz := size_data ((xs.getD i z46).f0.getD j z42).f2
    refine Ev.step (fun k => rfl) (ev_if_pos h0 (ev_if_pos h1' ?_))
    rw [e]
    refine ev_if_pos (by omega) (ev_if_pos (by omega) ?_)
    rw [drop_cons_getD z42 hj, List.flatMap_cons]
    have e2 : (rd_T42 (xs.getD i z46).f0 (j : Int)) = (xs.getD i z46).f0.getD j z42 := rfl
    rw [e2]
    generalize ((xs.getD i z46).f0.getD j z42) = v at *
    have hl : (encX v).length ≤ 110 := encV_le hv
    refine Ev.bind (specPutValue_is v.f0 v.f1 v.f2 (by omega)) (ev_if_pos (by show acc.length + (mkB (encX v)).size < _; rw [mkB_size]; omega) ?_)
    rw [wrap_succ hj (by omega)]
    have := ih (j + 1) (acc ++ bytesOf (mkB (encX v))) (by omega) (by omega) (by rw [List.length_append, bytesOf_len]; omega)
    rw [List.map_append, bytesOf_u8] at this
    simpa [encX] using this
theorem specPut_loop (w : Int) (xs : List S46) (hn : xs.length ≤ 400) (hx : ∀ c ∈ xs, smallC c) :
    ∀ (n i : Nat) (acc : List Int), xs.length - i = n → i ≤ xs.length → acc.length + n * 1500 ≤ 1000000 → Ev (fun k => spec_PutBag.l0 k acc (i : Int) w xs) (mkB (acc.map u8 ++ (xs.drop i).flatMap encC)) := by
  intro n
  induction n with
  | zero =>
    intro i acc h1 h2 h3
    refine Ev.step (fun k => rfl) (ev_if_neg (by omega) (ev_some fun _ => ?_))
    rw [List.drop_of_length_le (by omega), strOfNums_mk]
    simp
  | succ n ih =>
    intro i acc h1 h2 h3
    have hi : i < xs.length := by omega
    have hc := hx _ (getD_mem z46 hi)
    refine Ev.step (fun k => rfl) (ev_if_pos (by omega) (ev_if_pos (by omega) ?_))
    have e : (rd_T46 xs (i : Int)) = xs.getD i z46 := rfl
    rw [e, drop_cons_getD z46 hi, List.flatMap_cons]
    have hr := specRow_loop w xs i hi hc ((xs.drop (i + 1)).flatMap encC) (acc.length + 1450) (by omega) (fun a ha => by rw [wrap_succ hi (by omega)]; exact ih (i + 1) a (by omega) (by omega) (by omega))
    have hl : (encV 1 (xs.getD i z46).f1 []).length ≤ 110 := encV_le (by simp)
    have h12 := hc.1
    have hr0 := hr _ 0 (acc ++ bytesOf (mkB (encV 1 (xs.getD i z46).f1 []))) rfl (Nat.zero_le _) (by rw [List.length_append, bytesOf_len]; omega)
    rw [List.map_append, bytesOf_u8] at hr0
    have sp := specPutValue_is 1 (xs.getD i z46).f1 ⟨#[]⟩ (by decide)
    refine ev_bind0 (show spec_l01Int.f (xs.getD i z46).f1 = some (1, (xs.getD i z46).f1, (⟨#[]⟩ : ByteArray)) from rfl) (Ev.bind sp (ev_if_pos (by show acc.length + (mkB (encV 1 (xs.getD i z46).f1 [])).size < _; rw [mkB_size]; omega) ?_))
    have q : (⟨#[]⟩ : ByteArray).data.toList = [] := rfl
    rw [q]
    rw [show encC (xs.getD i z46) = encV 1 (xs.getD i z46).f1 [] ++ (xs.getD i z46).f0.flatMap encX from rfl]
    simpa using hr0
/-- The bytes of a bag; of what is none, none. -/
def encB (w : Int) (xs : List S46) : List UInt8 := u8 (w % 256) :: xs.flatMap encC
open Classical in
theorem specPutBag_is (w : Int) (xs : List S46) (hn : xs.length ≤ 1048576) (hx : ∀ c ∈ xs, c.f0.length ≤ 1048576) : Ev (fun k => spec_PutBag.f k w xs) (mkB (if BagP w xs then encB w xs else [])) := by
  have so := spec_bagOk_is w xs hn hx (decide (BagP w xs)) decide_eq_true_iff
  by_cases h : BagP w xs
  · rw [decide_eq_true h] at so
    rw [if_pos h]
    have hc : ∀ c ∈ xs, smallC c := (forall_getD z46 (p := smallC)).1 fun j hj => by
      have hr := (h.1 j hj).1
      exact ⟨by have := hr.2; have := h.2.1.2; omega, fun v hv => okV_size (hr.1 v hv)⟩
    have sl := specPut_loop w xs h.2.2 hc _ 0 [w % 256] rfl (Nat.zero_le _) (by have := h.2.2; simp; omega)
    exact Ev.congr (fun k => rfl) (Ev.bind so (ev_if_pos rfl sl))
  · rw [decide_eq_false h] at so
    rw [if_neg h]
    exact Ev.congr (fun k => rfl) (Ev.bind so (ev_if_neg (by simp) (ev_some fun _ => rfl)))
/-! #### the bytes of a value, and back -/
theorem u8_toNat {n : Int} (h0 : 0 ≤ n) (h1 : n < 256) : ((u8 n).toNat : Int) = n := by
  unfold u8
  rw [UInt8.toNat_ofNat']
  omega
theorem getV_cons (c : UInt8) (t : List UInt8) : getV (c :: t) = ((if c.toNat = 1 then (if 8 ≤ t.length then some ((1, wrap64 (beN (t.take 8) : Int), []), 9) else none)
    else if c.toNat = 2 then (match t with | [] => none | b :: _ => if b.toNat ≤ 1 then some ((2, (b.toNat : Int), []), 2) else none)
    else if c.toNat = 3 then (match t with | [] => none | m :: u => if m.toNat ≤ 100 ∧ m.toNat ≤ u.length then some ((3, 0, u.take m.toNat), 2 + m.toNat) else none)
    else if c.toNat = 0 then some ((0, 0, []), 1) else none) : Option ((Int × Int × List UInt8) × Nat)) := rfl
theorem be8_len (n : Int) : (be8 n).length = 8 := rfl
theorem beN_8 (c0 c1 c2 c3 c4 c5 c6 c7 : UInt8) : beN [c0, c1, c2, c3, c4, c5, c6, c7] = c0.toNat * 72057594037927936 + c1.toNat * 281474976710656 + c2.toNat * 1099511627776 + c3.toNat * 4294967296 + c4.toNat * 16777216 + c5.toNat * 65536 + c6.toNat * 256 + c7.toNat := by
  simp only [beN, List.foldl_cons, List.foldl_nil]
  omega
theorem be8_back (n : Int) (h0 : -9223372036854775808 ≤ n) (h1 : n ≤ 9223372036854775807) : wrap64 (beN (be8 n) : Int) = n := by
  have g : ∀ w : Int, ((u8 (n / w % 256)).toNat : Int) = n / w % 256 := fun w => u8_toNat (by omega) (by omega)
  have e : (beN (be8 n) : Int) = n / 72057594037927936 % 256 * 72057594037927936 + n / 281474976710656 % 256 * 281474976710656 + n / 1099511627776 % 256 * 1099511627776 + n / 4294967296 % 256 * 4294967296 + n / 16777216 % 256 * 16777216 + n / 65536 % 256 * 65536 + n / 256 % 256 * 256 + n % 256 := by
    have g1 : ((u8 (n % 256)).toNat : Int) = n % 256 := u8_toNat (by omega) (by omega)
    have q := beN_8 (u8 (n / 72057594037927936 % 256)) (u8 (n / 281474976710656 % 256)) (u8 (n / 1099511627776 % 256)) (u8 (n / 4294967296 % 256)) (u8 (n / 16777216 % 256)) (u8 (n / 65536 % 256)) (u8 (n / 256 % 256)) (u8 (n % 256))
    have q' : beN (be8 n) = _ := q
    have := g 72057594037927936
    have := g 281474976710656
    have := g 1099511627776
    have := g 4294967296
    have := g 16777216
    have := g 65536
    have := g 256
    omega
  rw [e]
  unfold wrap64
  omega
theorem okV_kinds0 {a b : Int} {s : List UInt8} (h : okV a b s = true) : (a = 0 ∧ b = 0 ∧ s = []) ∨ (a = 1 ∧ s = []) ∨ (a = 2 ∧ (0 ≤ b ∧ b ≤ 1) ∧ s = []) ∨ (a = 3 ∧ b = 0 ∧ s.length ≤ 100) := by
  unfold okV at h
  by_cases h0 : a = 0
  · rw [if_pos h0, Bool.and_eq_true, beq_iff_eq, List.isEmpty_iff] at h
    exact Or.inl ⟨h0, h⟩
  rw [if_neg h0] at h
  by_cases h1 : a = 1
  · rw [if_pos h1, List.isEmpty_iff] at h
    exact Or.inr (Or.inl ⟨h1, h⟩)
  rw [if_neg h1] at h
  by_cases h2 : a = 2
  · rw [if_pos h2, Bool.and_eq_true, decide_eq_true_eq, List.isEmpty_iff] at h
    exact Or.inr (Or.inr (Or.inl ⟨h2, h⟩))
  rw [if_neg h2] at h
  by_cases h3 : a = 3
  · rw [if_pos h3, Bool.and_eq_true, beq_iff_eq, decide_eq_true_eq] at h
    exact Or.inr (Or.inr (Or.inr ⟨h3, h⟩))
  · rw [if_neg h3] at h
    cases h
/-- What the bytes of a right value are read back as. -/
theorem getV_enc (a b : Int) (s t : List UInt8) (ok : okV a b s = true) (h0 : -9223372036854775808 ≤ b) (h1 : b ≤ 9223372036854775807) : getV (encV a b s ++ t) = some ((a, b, s), (encV a b s).length) := by
  have hk := okV_kinds0 ok
  unfold encV
  rw [if_pos ok]
  rcases hk with ⟨rfl, rfl, rfl⟩ | ⟨rfl, rfl⟩ | ⟨rfl, hb, rfl⟩ | ⟨rfl, rfl, hs⟩
  · rfl
  · rw [if_pos rfl]
    have e : getV (1 :: (be8 b ++ t)) = some ((1, wrap64 (beN ((be8 b ++ t).take 8) : Int), []), 9) := by
      rw [getV_cons, if_pos (by rfl), if_pos (by rw [List.length_append, be8_len]; omega)]
    rw [List.cons_append, e, show (be8 b ++ t).take 8 = be8 b from by rw [List.take_append_of_le_length (by rw [be8_len]; omega), List.take_of_length_le (by rw [be8_len]; omega)], be8_back b h0 h1]
    rfl
  · rw [if_neg (by decide), if_pos rfl]
    have hn := u8_toNat (n := b) (by omega) (by omega)
    show getV (2 :: u8 b :: t) = _
    rw [getV_cons, if_neg (by decide), if_pos (by rfl)]
    show (if (u8 b).toNat ≤ 1 then _ else _) = _
    rw [if_pos (by omega), hn]
    rfl
  · rw [if_neg (by decide), if_neg (by decide), if_pos rfl]
    have hn := u8_toNat (n := (s.length : Int)) (by omega) (by omega)
    have hm : (u8 (s.length : Int)).toNat = s.length := by omega
    show getV (3 :: u8 (s.length : Int) :: (s ++ t)) = _
    rw [getV_cons, if_neg (by decide), if_neg (by decide), if_pos (by rfl)]
    show (if (u8 (s.length : Int)).toNat ≤ 100 ∧ (u8 (s.length : Int)).toNat ≤ (s ++ t).length then _ else _) = _
    rw [hm, if_pos ⟨hs, by rw [List.length_append]; omega⟩, List.take_append_of_le_length (Nat.le_refl _), List.take_of_length_le (Nat.le_refl _)]
    simp
    omega
theorem u8_of (c : UInt8) : u8 (c.toNat : Int) = c := by
  unfold u8
  rw [Int.toNat_natCast]
  exact UInt8.toNat_inj.1 (by rw [UInt8.toNat_ofNat']; have := c.toNat_lt; omega)
theorem shft (m a : Int) (h : m = a ∨ m = a - 18446744073709551616) : m % 256 = a % 256 ∧ m / 256 % 256 = a / 256 % 256 ∧ m / 65536 % 256 = a / 65536 % 256 ∧ m / 16777216 % 256 = a / 16777216 % 256 ∧ m / 4294967296 % 256 = a / 4294967296 % 256 ∧ m / 1099511627776 % 256 = a / 1099511627776 % 256 ∧ m / 281474976710656 % 256 = a / 281474976710656 % 256 ∧ m / 72057594037927936 % 256 = a / 72057594037927936 % 256 := by
  rcases h with rfl | rfl
  · exact ⟨rfl, rfl, rfl, rfl, rfl, rfl, rfl, rfl⟩
  · refine ⟨?_, ?_, ?_, ?_, ?_, ?_, ?_, ?_⟩ <;> omega
theorem dig (a q c : Int) (h : a = q * 256 + c) (h0 : 0 ≤ c) (h1 : c < 256) : a / 256 = q ∧ a % 256 = c := by omega
theorem dd2 (a : Int) : a / 65536 = a / 256 / 256 := by omega
theorem dd3 (a : Int) : a / 16777216 = a / 65536 / 256 := by omega
theorem dd4 (a : Int) : a / 4294967296 = a / 16777216 / 256 := by omega
theorem dd5 (a : Int) : a / 1099511627776 = a / 4294967296 / 256 := by omega
theorem dd6 (a : Int) : a / 281474976710656 = a / 1099511627776 / 256 := by omega
theorem dd7 (a : Int) : a / 72057594037927936 = a / 281474976710656 / 256 := by omega
theorem be8_of (c0 c1 c2 c3 c4 c5 c6 c7 : UInt8) : be8 (wrap64 (beN [c0, c1, c2, c3, c4, c5, c6, c7] : Int)) = [c0, c1, c2, c3, c4, c5, c6, c7] := by
  have b : ∀ c : UInt8, 0 ≤ (c.toNat : Int) ∧ (c.toNat : Int) < 256 := fun c => by have := c.toNat_lt; omega
  obtain ⟨a1, h1⟩ : ∃ a : Int, a = (c0.toNat : Int) * 256 + (c1.toNat : Int) := ⟨_, rfl⟩
  obtain ⟨a2, h2⟩ : ∃ a : Int, a = a1 * 256 + (c2.toNat : Int) := ⟨_, rfl⟩
  obtain ⟨a3, h3⟩ : ∃ a : Int, a = a2 * 256 + (c3.toNat : Int) := ⟨_, rfl⟩
  obtain ⟨a4, h4⟩ : ∃ a : Int, a = a3 * 256 + (c4.toNat : Int) := ⟨_, rfl⟩
  obtain ⟨a5, h5⟩ : ∃ a : Int, a = a4 * 256 + (c5.toNat : Int) := ⟨_, rfl⟩
  obtain ⟨a6, h6⟩ : ∃ a : Int, a = a5 * 256 + (c6.toNat : Int) := ⟨_, rfl⟩
  obtain ⟨a7, h7⟩ : ∃ a : Int, a = a6 * 256 + (c7.toNat : Int) := ⟨_, rfl⟩
  have e : (beN [c0, c1, c2, c3, c4, c5, c6, c7] : Int) = a7 := by
    rw [h7, h6, h5, h4, h3, h2, h1]
    simp only [beN, List.foldl_cons, List.foldl_nil]
    omega
  have r0 : 0 ≤ a7 ∧ a7 < 18446744073709551616 := by
    have := b c0; have := b c1; have := b c2; have := b c3; have := b c4; have := b c5; have := b c6; have := b c7
    omega
  rw [e]
  have hm : wrap64 a7 = a7 ∨ wrap64 a7 = a7 - 18446744073709551616 := by
    clear e h7 h6 h5 h4 h3 h2 h1
    unfold wrap64
    omega
  obtain ⟨m0, m1, m2, m3, m4, m5, m6, m7⟩ := shft _ _ hm
  obtain ⟨d7, e7⟩ := dig _ _ _ h7 (b c7).1 (b c7).2
  obtain ⟨d6, e6⟩ := dig _ _ _ h6 (b c6).1 (b c6).2
  obtain ⟨d5, e5⟩ := dig _ _ _ h5 (b c5).1 (b c5).2
  obtain ⟨d4, e4⟩ := dig _ _ _ h4 (b c4).1 (b c4).2
  obtain ⟨d3, e3⟩ := dig _ _ _ h3 (b c3).1 (b c3).2
  obtain ⟨d2, e2⟩ := dig _ _ _ h2 (b c2).1 (b c2).2
  obtain ⟨d1, e1⟩ := dig _ _ _ h1 (b c1).1 (b c1).2
  have e0 : (c0.toNat : Int) % 256 = c0.toNat := Int.emod_eq_of_lt (b c0).1 (b c0).2
  have g : ∀ (x : Int) (c : UInt8), x = (c.toNat : Int) → u8 x = c := fun x c h => by rw [h, u8_of]
  unfold be8
  simp only [List.cons.injEq, and_true]
  refine ⟨g _ _ ?_, g _ _ ?_, g _ _ ?_, g _ _ ?_, g _ _ ?_, g _ _ ?_, g _ _ ?_, g _ _ ?_⟩
  · rw [m7, dd7, dd6, dd5, dd4, dd3, dd2, d7, d6, d5, d4, d3, d2, d1, e0]
  · rw [m6, dd6, dd5, dd4, dd3, dd2, d7, d6, d5, d4, d3, d2, e1]
  · rw [m5, dd5, dd4, dd3, dd2, d7, d6, d5, d4, d3, e2]
  · rw [m4, dd4, dd3, dd2, d7, d6, d5, d4, e3]
  · rw [m3, dd3, dd2, d7, d6, d5, e4]
  · rw [m2, dd2, d7, d6, e5]
  · rw [m1, d7, e6]
  · rw [m0, e7]
/-- What is read back has no other bytes. -/
theorem getV_can (l : List UInt8) (a b : Int) (x : List UInt8) (n : Nat) (h : getV l = some ((a, b, x), n)) : encV a b x = l.take n ∧ n ≤ l.length ∧ 0 < n ∧ x.length ≤ 100 := by
  cases l with
  | nil => cases h
  | cons c t =>
    have cEq : ∀ m : UInt8, c.toNat = m.toNat → c = m := fun m e => UInt8.toNat_inj.1 e
    rw [getV_cons] at h
    by_cases k1 : c.toNat = 1
    · rw [if_pos k1] at h
      by_cases k : 8 ≤ t.length
      · rw [if_pos k] at h
        obtain ⟨⟨rfl, rfl, rfl⟩, rfl⟩ : (1 = a ∧ wrap64 (beN (t.take 8) : Int) = b ∧ [] = x) ∧ 9 = n := by simpa using h
        match t, k with
        | c0 :: c1 :: c2 :: c3 :: c4 :: c5 :: c6 :: c7 :: r, _ =>
          refine ⟨?_, by simp, by decide, by simp⟩
          rw [show (c0 :: c1 :: c2 :: c3 :: c4 :: c5 :: c6 :: c7 :: r).take 8 = [c0, c1, c2, c3, c4, c5, c6, c7] from rfl]
          unfold encV
          rw [if_pos (by rfl), if_pos rfl, be8_of, cEq 1 k1]
          rfl
      · rw [if_neg k] at h
        cases h
    rw [if_neg k1] at h
    by_cases k2 : c.toNat = 2
    · rw [if_pos k2] at h
      cases t with
      | nil => cases h
      | cons m r =>
        by_cases k : m.toNat ≤ 1
        · have h' : some (((2 : Int), (m.toNat : Int), ([] : List UInt8)), 2) = some ((a, b, x), n) := by
            have e : (if m.toNat ≤ 1 then some (((2 : Int), (m.toNat : Int), ([] : List UInt8)), 2) else none) = some ((a, b, x), n) := h
            rwa [if_pos k] at e
          obtain ⟨⟨rfl, rfl, rfl⟩, rfl⟩ : ((2 : Int) = a ∧ (m.toNat : Int) = b ∧ [] = x) ∧ 2 = n := by simpa using h'
          refine ⟨?_, by simp, by decide, by simp⟩
          unfold encV okV
          rw [if_pos (by simp; omega), if_neg (by decide), if_pos rfl, u8_of, cEq 2 k2]
          rfl
        · have e : (if m.toNat ≤ 1 then some (((2 : Int), (m.toNat : Int), ([] : List UInt8)), 2) else none) = some ((a, b, x), n) := h
          rw [if_neg k] at e
          cases e
    rw [if_neg k2] at h
    by_cases k3 : c.toNat = 3
    · rw [if_pos k3] at h
      cases t with
      | nil => cases h
      | cons m u =>
        have e : (if m.toNat ≤ 100 ∧ m.toNat ≤ u.length then some (((3 : Int), (0 : Int), u.take m.toNat), 2 + m.toNat) else none) = some ((a, b, x), n) := h
        by_cases k : m.toNat ≤ 100 ∧ m.toNat ≤ u.length
        · rw [if_pos k] at e
          obtain ⟨⟨rfl, rfl, rfl⟩, rfl⟩ : ((3 : Int) = a ∧ (0 : Int) = b ∧ u.take m.toNat = x) ∧ 2 + m.toNat = n := by simpa using e
          have hl : (u.take m.toNat).length = m.toNat := by rw [List.length_take]; omega
          refine ⟨?_, by simp; omega, by omega, by omega⟩
          unfold encV okV
          rw [if_pos (by rw [hl]; simp; omega), if_neg (by decide), if_neg (by decide), if_pos rfl, hl, u8_of, cEq 3 k3, show 2 + m.toNat = m.toNat + 1 + 1 by omega]
          rfl
        · rw [if_neg k] at e
          cases e
    rw [if_neg k3] at h
    by_cases k0 : c.toNat = 0
    · rw [if_pos k0] at h
      obtain ⟨⟨rfl, rfl, rfl⟩, rfl⟩ : (0 = a ∧ 0 = b ∧ [] = x) ∧ 1 = n := by simpa using h
      refine ⟨?_, by simp, by decide, by simp⟩
      rw [cEq 0 k0]
      rfl
    · rw [if_neg k0] at h
      cases h
/-! #### a bag from its bytes -/
/-- So many values, and how many bytes they are. -/
def pRow : Nat → List UInt8 → Option (List S42 × Nat)
  | 0, _ => some ([], 0)
  | m + 1, l => (getV l).bind fun p => (pRow m (l.drop p.2)).bind fun q => some (⟨p.1.1, p.1.2.1, mkB p.1.2.2⟩ :: q.1, p.2 + q.2)
/-- Rows of so many values, each behind how often it is there. -/
def pBag (w : Nat) : Nat → List UInt8 → Option (List S46)
  | _, [] => some []
  | 0, _ :: _ => none
  | f + 1, c :: t => (getV (c :: t)).bind fun p => if p.1.1 = 1 then ((pRow w ((c :: t).drop p.2)).bind fun q => (pBag w f ((c :: t).drop (p.2 + q.2))).bind fun cs => some (⟨q.1, p.1.2.1⟩ :: cs)) else none
theorem pBag_step (w f : Nat) (l : List UInt8) (h : l ≠ []) : pBag w (f + 1) l = (getV l).bind fun p => if p.1.1 = 1 then ((pRow w (l.drop p.2)).bind fun q => (pBag w f (l.drop (p.2 + q.2))).bind fun cs => some (⟨q.1, p.1.2.1⟩ :: cs)) else none := by
  cases l with
  | nil => exact absurd rfl h
  | cons c t => rfl
theorem getV_one {l : List UInt8} {b : Int} {x : List UInt8} {n : Nat} (h : getV l = some ((1, b, x), n)) : x = [] := by
  cases l with
  | nil => cases h
  | cons c t =>
    rw [getV_cons] at h
    by_cases k1 : c.toNat = 1
    · rw [if_pos k1] at h
      by_cases k : 8 ≤ t.length
      · rw [if_pos k] at h
        simp at h
        exact h.1.2
      · rw [if_neg k] at h
        cases h
    rw [if_neg k1] at h
    by_cases k2 : c.toNat = 2
    · rw [if_pos k2] at h
      cases t with
      | nil => cases h
      | cons m r =>
        have e : (if m.toNat ≤ 1 then some (((2 : Int), (m.toNat : Int), ([] : List UInt8)), 2) else none) = some ((1, b, x), n) := h
        by_cases k : m.toNat ≤ 1
        · rw [if_pos k] at e; simp at e
        · rw [if_neg k] at e; cases e
    rw [if_neg k2] at h
    by_cases k3 : c.toNat = 3
    · rw [if_pos k3] at h
      cases t with
      | nil => cases h
      | cons m u =>
        have e : (if m.toNat ≤ 100 ∧ m.toNat ≤ u.length then some (((3 : Int), (0 : Int), u.take m.toNat), 2 + m.toNat) else none) = some ((1, b, x), n) := h
        by_cases k : m.toNat ≤ 100 ∧ m.toNat ≤ u.length
        · rw [if_pos k] at e; simp at e
        · rw [if_neg k] at e; cases e
    rw [if_neg k3] at h
    by_cases k0 : c.toNat = 0
    · rw [if_pos k0] at h
      simp at h
    · rw [if_neg k0] at h
      cases h
theorem pRow_can : ∀ (m : Nat) (l : List UInt8) (vs : List S42) (n : Nat), pRow m l = some (vs, n) → vs.flatMap encX = l.take n ∧ n ≤ l.length ∧ vs.length = m
  | 0, l, vs, n, h => by
    obtain ⟨rfl, rfl⟩ : [] = vs ∧ 0 = n := by simpa [pRow] using h
    simp
  | m + 1, l, vs, n, h => by
    obtain ⟨⟨⟨a, b, x⟩, n1⟩, h1, h⟩ := Option.bind_eq_some_iff.1 h
    obtain ⟨⟨vs', n2⟩, h2, h⟩ := Option.bind_eq_some_iff.1 h
    obtain ⟨rfl, rfl⟩ : ((⟨a, b, mkB x⟩ : S42) :: vs') = vs ∧ n1 + n2 = n := by simpa using h
    obtain ⟨c1, c2, c3, c4⟩ := getV_can _ _ _ _ _ h1
    obtain ⟨d1, d2, d3⟩ := pRow_can m _ _ _ h2
    rw [List.length_drop] at d2
    refine ⟨?_, by show n1 + n2 ≤ l.length; omega, by rw [List.length_cons, d3]⟩
    rw [List.flatMap_cons, d1]
    show encV a b (mkB x).data.toList ++ _ = _
    rw [mkB_data, c1, List.take_add]
theorem pBag_can (w : Nat) : ∀ (f : Nat) (l : List UInt8) (cs : List S46), pBag w f l = some cs → cs.flatMap encC = l
  | 0, [], cs, h => by
    obtain rfl : [] = cs := by simpa [pBag] using h
    rfl
  | 0, c :: t, cs, h => by cases h
  | f + 1, [], cs, h => by
    obtain rfl : [] = cs := by simpa [pBag] using h
    rfl
  | f + 1, c :: t, cs, h => by
    rw [pBag_step w f (c :: t) (by simp)] at h
    obtain ⟨⟨⟨a, b, x⟩, n1⟩, h1, h⟩ := Option.bind_eq_some_iff.1 h
    by_cases ha : a = 1
    case neg =>
      have h' : (none : Option (List S46)) = some cs := by rw [← h]; exact (if_neg ha).symm
      cases h'
    subst ha
    replace h := (if_pos rfl).symm.trans h
    obtain ⟨⟨vs, n2⟩, h2, h⟩ := Option.bind_eq_some_iff.1 h
    obtain ⟨cs', h3, h⟩ := Option.bind_eq_some_iff.1 h
    obtain rfl : ((⟨vs, b⟩ : S46) :: cs') = cs := by simpa using h
    obtain ⟨c1, c2, c3, c4⟩ := getV_can _ _ _ _ _ h1
    obtain rfl := getV_one h1
    obtain ⟨d1, d2, d3⟩ := pRow_can w _ _ _ h2
    have e3 := pBag_can w f _ _ h3
    rw [List.flatMap_cons, e3]
    show (encV 1 b [] ++ vs.flatMap encX) ++ _ = _
    rw [c1, d1, List.append_assoc]
    conv => rhs; rw [← List.take_append_drop n1 (c :: t)]
    congr 1
    conv => rhs; rw [← List.take_append_drop n2 ((c :: t).drop n1)]
    rw [List.drop_drop]
theorem encV_pos {a b : Int} {s : List UInt8} (h : okV a b s = true) : 0 < (encV a b s).length := by
  unfold encV
  rw [if_pos h]
  by_cases h1 : a = 1
  · rw [if_pos h1]; simp
  rw [if_neg h1]
  by_cases h2 : a = 2
  · rw [if_pos h2]; simp
  rw [if_neg h2]
  by_cases h3 : a = 3
  · rw [if_pos h3]; simp
  · rw [if_neg h3]; simp
def okX (x : S42) : Prop := okV x.f0 x.f1 x.f2.data.toList = true ∧ -9223372036854775808 ≤ x.f1 ∧ x.f1 ≤ 9223372036854775807
theorem pRow_enc : ∀ (vs : List S42) (t : List UInt8), (∀ v ∈ vs, okX v) → pRow vs.length (vs.flatMap encX ++ t) = some (vs, (vs.flatMap encX).length)
  | [], t, _ => rfl
  | v :: vs, t, h => by
    obtain ⟨h1, h2, h3⟩ := h v (by simp)
    have ih := pRow_enc vs t fun y hy => h y (by simp [hy])
    rw [List.flatMap_cons, List.length_cons, List.append_assoc]
    show (getV (encX v ++ (vs.flatMap encX ++ t))).bind _ = _
    have e := getV_enc v.f0 v.f1 v.f2.data.toList (vs.flatMap encX ++ t) h1 h2 h3
    rw [show encX v = encV v.f0 v.f1 v.f2.data.toList from rfl, e, Option.bind_some]
    show (pRow vs.length (List.drop (encV v.f0 v.f1 v.f2.data.toList).length (encV v.f0 v.f1 v.f2.data.toList ++ (vs.flatMap encX ++ t)))).bind _ = _
    rw [List.drop_left, ih, Option.bind_some, mkB_of, List.length_append]
theorem pBag_enc (w : Nat) : ∀ (cs : List S46) (f : Nat), (cs.flatMap encC).length ≤ f → (∀ c ∈ cs, c.f0.length = w ∧ (∀ v ∈ c.f0, okX v) ∧ -9223372036854775808 ≤ c.f1 ∧ c.f1 ≤ 9223372036854775807) → pBag w f (cs.flatMap encC) = some cs
  | [], f, _, _ => by cases f <;> rfl
  | c :: cs, f, hf, h => by
    obtain ⟨h1, h2, h3, h4⟩ := h c (by simp)
    have ok1 : okV 1 c.f1 [] = true := rfl
    have e1 := encV_pos ok1
    rw [List.flatMap_cons] at hf ⊢
    have hl : (encC c).length = (encV 1 c.f1 []).length + (c.f0.flatMap encX).length := by unfold encC; rw [List.length_append]
    rw [List.length_append] at hf
    obtain ⟨f, rfl⟩ : ∃ g, f = g + 1 := ⟨f - 1, by omega⟩
    have ih := pBag_enc w cs f (by omega) fun y hy => h y (by simp [hy])
    have hne : encC c ++ cs.flatMap encC ≠ [] := by
      intro g
      have := congrArg List.length g
      rw [List.length_append, List.length_nil] at this
      omega
    rw [pBag_step w f _ hne]
    have ec : encC c ++ cs.flatMap encC = encV 1 c.f1 [] ++ (c.f0.flatMap encX ++ cs.flatMap encC) := by unfold encC; rw [List.append_assoc]
    rw [ec, getV_enc 1 c.f1 [] _ ok1 h3 h4, Option.bind_some]
    show (if (1 : Int) = 1 then _ else _) = _
    rw [if_pos rfl]
    show (pRow w (List.drop (encV 1 c.f1 []).length (encV 1 c.f1 [] ++ (c.f0.flatMap encX ++ cs.flatMap encC)))).bind _ = _
    have er := pRow_enc c.f0 (cs.flatMap encC) h2
    rw [h1] at er
    rw [List.drop_left, er, Option.bind_some]
    show (pBag w f (List.drop ((encV 1 c.f1 []).length + (c.f0.flatMap encX).length) (encV 1 c.f1 [] ++ (c.f0.flatMap encX ++ cs.flatMap encC)))).bind _ = _
    rw [← List.drop_drop, List.drop_left, List.drop_left, ih, Option.bind_some]
/-! #### GetBag: both, from the bytes -/
open Classical in
/-- What is handed back of rows that have been read. -/
noncomputable def resG (w : Nat) (o : Option (List S46)) : Int × List S46 × Bool := match o with
  | some cs => if BagP (w : Int) cs then ((w : Int), cs, true) else (0, [], false)
  | none => (0, [], false)
theorem gb_l0 (s : ByteArray) (i : Int) (w : Int) (rows : List S46) (q : Bool) (k : Nat) : impl_GetBag.l0 (k + 1) s s i q w rows = if q = true then impl_GetBag.j2 k s false s i q w rows else impl_GetBag.j2 k s (decide (i < (s.size : Int))) s i q w rows := rfl
theorem gb_bad (s : ByteArray) (i : Int) (w : Int) (rows : List S46) : Ev (fun k => impl_GetBag.l0 k s s i true w rows) (0, [], false, s, i, true) := by
  have hj := fun (q p : Bool) (k : Nat) => (show impl_GetBag.j2 (k + 1) s q s i p w rows = ite (q = true) _ (ite (p = true) (some (0, [], false, s, i, p)) _) from rfl)
  exact Ev.step (fun k => (gb_l0 s i w rows true k).trans (if_pos rfl)) (Ev.step (fun k => (hj false true k).trans ((if_neg Bool.false_ne_true).trans (if_pos rfl))) (ev_some fun _ => rfl))
theorem gb_badrow (s : ByteArray) (i : Int) (w : Nat) (rows : List S46) (b : Int) (hr : rows.length ≤ 1048576) (hw : w ≤ 12) :
    ∀ (n j : Nat) (vs : List S42), w - j = n → j ≤ w → vs.length = j → Ev (fun k => impl_GetBag.l1 k s (w : Int) (j : Int) s i true (w : Int) rows vs b) (0, [], false, s, i, true) := by
  intro n
  induction n with
  | zero =>
    intro j vs h1 h2 h3
    exact Ev.step (fun k => rfl) (ev_if_neg (by omega) (ev_if_pos (by omega) (gb_bad s i w _)))
  | succ n ih =>
    intro j vs h1 h2 h3
    refine Ev.step (fun k => rfl) (ev_if_pos (by omega) (ev_bind0 (value_bad s i) (ev_if_pos (by omega) ?_)))
    rw [wrap_succ (show j < w by omega) (by omega)]
    exact ih (j + 1) _ (by omega) (by omega) (by rw [List.length_append, h3]; rfl)
theorem gb_row (s : ByteArray) (hs : s.size ≤ 1048576) (w : Nat) (hw : w ≤ 12) (rows : List S46) (b : Int) (hr : rows.length ≤ 1048576) :
    ∀ (m j i : Nat) (vs : List S42), w - j = m → j ≤ w → vs.length = j → i ≤ s.size →
      (∀ vs' n, pRow m (s.data.toList.drop i) = some (vs', n) → ∀ r, Ev (fun k => impl_GetBag.l0 k s s ((i + n : Nat) : Int) false (w : Int) (rows ++ [⟨vs ++ vs', b⟩])) r → Ev (fun k => impl_GetBag.l1 k s (w : Int) (j : Int) s (i : Int) false (w : Int) rows vs b) r) ∧
      (pRow m (s.data.toList.drop i) = none → ∃ q, Ev (fun k => impl_GetBag.l1 k s (w : Int) (j : Int) s (i : Int) false (w : Int) rows vs b) (0, [], false, q)) := by
  intro m
  induction m with
  | zero =>
    intro j i vs h1 h2 h3 h4
    refine ⟨fun vs' n h r hr' => ?_, fun h => by cases h⟩
    obtain ⟨rfl, rfl⟩ : [] = vs' ∧ 0 = n := by simpa [pRow] using h
    rw [List.append_nil] at hr'
    exact Ev.step (fun k => rfl) (ev_if_neg (by omega) (ev_if_pos (by omega) hr'))
  | succ m ih =>
    intro j i vs h1 h2 h3 h4
    have hj : j < w := by omega
    rcases value_is s i h4 (by omega) with ⟨a, c, x, n1, g1, g2, g3⟩ | ⟨g1, a, c, x, j', g2, g3⟩
    · obtain ⟨i1, i2⟩ := ih (j + 1) (i + n1) (vs ++ [⟨a, c, mkB x⟩]) (by omega) (by omega) (by rw [List.length_append, h3]; rfl) g3
      have step : ∀ r, Ev (fun k => impl_GetBag.l1 k s (w : Int) ((j + 1 : Nat) : Int) s ((i + n1 : Nat) : Int) false (w : Int) rows (vs ++ [⟨a, c, mkB x⟩]) b) r → Ev (fun k => impl_GetBag.l1 k s (w : Int) (j : Int) s (i : Int) false (w : Int) rows vs b) r := fun r hr' => by
        refine Ev.step (fun k => rfl) (ev_if_pos (by omega) (ev_bind0 g2 (ev_if_pos (by omega) ?_)))
        rw [wrap_succ hj (by omega)]
        exact hr'
      have e : pRow (m + 1) (s.data.toList.drop i) = (pRow m (s.data.toList.drop (i + n1))).bind fun q => some (⟨a, c, mkB x⟩ :: q.1, n1 + q.2) := by
        show (getV (s.data.toList.drop i)).bind _ = _
        rw [g1, Option.bind_some, List.drop_drop]
      refine ⟨fun vs' n h r hr' => ?_, fun h => ?_⟩
      · rw [e] at h
        obtain ⟨⟨vs2, n2⟩, h2', h⟩ := Option.bind_eq_some_iff.1 h
        obtain ⟨rfl, rfl⟩ : ((⟨a, c, mkB x⟩ : S42) :: vs2) = vs' ∧ n1 + n2 = n := by simpa using h
        refine step _ (i1 vs2 n2 h2' r ?_)
        rw [List.append_assoc, List.singleton_append, show i + n1 + n2 = i + (n1 + n2) by omega]
        exact hr'
      · rw [e] at h
        cases hp : pRow m (s.data.toList.drop (i + n1)) with
        | some p => rw [hp] at h; cases h
        | none =>
          obtain ⟨q, hq⟩ := i2 hp
          exact ⟨q, step _ hq⟩
    · have e : pRow (m + 1) (s.data.toList.drop i) = none := by
        show (getV (s.data.toList.drop i)).bind _ = _
        rw [g1, Option.bind_none]
      refine ⟨fun vs' n h r hr' => (by rw [e] at h; cases h), fun _ => ⟨(s, (j' : Int), true), Ev.step (fun k => rfl) (ev_if_pos (by omega) (ev_bind0 g2 (ev_if_pos (by omega) ?_)))⟩⟩
      rw [wrap_succ hj (by omega)]
      exact gb_badrow s j' w rows b hr hw _ (j + 1) _ rfl (by omega) (by rw [List.length_append, h3]; rfl)
open Classical in
theorem gb_loop (s : ByteArray) (hs : s.size ≤ 1048576) (w : Nat) (hw : w ≤ 12) :
    ∀ (f i : Nat) (rows : List S46), s.size - i ≤ f → i ≤ s.size → rows.length ≤ i → ∃ q, Ev (fun k => impl_GetBag.l0 k s s (i : Int) false (w : Int) rows) ((resG w ((pBag w f (s.data.toList.drop i)).map (rows ++ ·))).1, (resG w ((pBag w f (s.data.toList.drop i)).map (rows ++ ·))).2.1, (resG w ((pBag w f (s.data.toList.drop i)).map (rows ++ ·))).2.2, q) := by
  have hsz := size_data s
  have hj := fun (i : Int) (rows : List S46) (q p : Bool) (k : Nat) => (show impl_GetBag.j2 (k + 1) s q s i p (w : Int) rows = ite (q = true) _ (ite (p = true) (some (0, [], false, s, i, p)) ((impl_BagOk.f k (w : Int) rows).bind fun t => ite (t = true) (some ((w : Int), rows, true, s, i, p)) (some (0, [], false, s, i, p)))) from rfl)
  have fin : ∀ (i : Nat) (rows : List S46), i = s.size → rows.length ≤ i → Ev (fun k => impl_GetBag.l0 k s s (i : Int) false (w : Int) rows) ((resG w (some rows)).1, (resG w (some rows)).2.1, (resG w (some rows)).2.2, s, (i : Int), false) := fun i rows h1 h2 => by
    refine Ev.step (fun k => (gb_l0 s i w rows false k).trans (if_neg Bool.false_ne_true)) ?_
    rw [decide_eq_false (show ¬ (i : Int) < (s.size : Int) by omega)]
    refine Ev.step (fun k => (hj i rows false false k).trans ((if_neg Bool.false_ne_true).trans (if_neg Bool.false_ne_true))) (Ev.bind (impl_bagOk_is (w : Int) rows (by omega) (decide (BagP (w : Int) rows)) decide_eq_true_iff) ?_)
    unfold resG
    by_cases hb : BagP (w : Int) rows
    · rw [decide_eq_true hb]
      exact ev_if_pos rfl (ev_some fun _ => by simp [hb])
    · rw [decide_eq_false hb]
      exact ev_if_neg (by simp) (ev_some fun _ => by simp [hb])
  intro f
  induction f with
  | zero =>
    intro i rows h1 h2 h3
    have hd : s.data.toList.drop i = [] := List.drop_of_length_le (by omega)
    rw [hd]
    have := fin i rows (by omega) h3
    refine ⟨(s, (i : Int), false), ?_⟩
    · show Ev _ ((resG w (some (rows ++ []))).1, (resG w (some (rows ++ []))).2.1, (resG w (some (rows ++ []))).2.2, _)
      rw [List.append_nil]
      exact this
  | succ f ih =>
    intro i rows h1 h2 h3
    by_cases hi : i = s.size
    · have hd : s.data.toList.drop i = [] := List.drop_of_length_le (by omega)
      rw [hd]
      have := fin i rows hi h3
      refine ⟨(s, (i : Int), false), ?_⟩
      · show Ev _ ((resG w (some (rows ++ []))).1, (resG w (some (rows ++ []))).2.1, (resG w (some (rows ++ []))).2.2, _)
        rw [List.append_nil]
        exact this
    have hlt : i < s.size := by omega
    have hne : s.data.toList.drop i ≠ [] := by
      intro g
      have := congrArg List.length g
      rw [List.length_drop, List.length_nil] at this
      omega
    rw [pBag_step w f _ hne]
    have hj1 := fun (q : Bool) (k : Nat) => (show impl_GetBag.j2 (k + 1) s q s (i : Int) false (w : Int) rows = ite (q = true) ((impl_reader_value.f s (i : Int) false).bind fun bt => ite (bt.1 = 1) (impl_GetBag.l1 k s (w : Int) 0 bt.2.2.2.1 bt.2.2.2.2.1 bt.2.2.2.2.2 (w : Int) rows [] bt.2.1) (some (0, [], false, bt.2.2.2.1, bt.2.2.2.2.1, bt.2.2.2.2.2))) _ from rfl)
    have top : ∀ r, Ev (fun k => (impl_reader_value.f s (i : Int) false).bind fun bt => ite (bt.1 = 1) (impl_GetBag.l1 k s (w : Int) 0 bt.2.2.2.1 bt.2.2.2.2.1 bt.2.2.2.2.2 (w : Int) rows [] bt.2.1) (some (0, [], false, bt.2.2.2.1, bt.2.2.2.2.1, bt.2.2.2.2.2))) r → Ev (fun k => impl_GetBag.l0 k s s (i : Int) false (w : Int) rows) r := fun r hr => by
      refine Ev.step (fun k => (gb_l0 s i w rows false k).trans (if_neg Bool.false_ne_true)) ?_
      rw [decide_eq_true (show (i : Int) < (s.size : Int) by omega)]
      exact Ev.step (fun k => (hj1 true k).trans (if_pos rfl)) hr
    rcases value_is s i h2 (by omega) with ⟨a, c, x, n1, g1, g2, g3⟩ | ⟨g1, a, c, x, j', g2, g3⟩
    · rw [g1, Option.bind_some]
      by_cases ha : a = 1
      case neg =>
        refine ⟨(s, ((i + n1 : Nat) : Int), false), ?_⟩
        show Ev _ ((resG w (Option.map _ (ite (a = 1) _ none))).1, (resG w (Option.map _ (ite (a = 1) _ none))).2.1, (resG w (Option.map _ (ite (a = 1) _ none))).2.2, _)
        rw [if_neg ha]
        exact top _ (ev_bind0 g2 (ev_if_neg ha (ev_some fun _ => rfl)))
      subst ha
      have hpos := (getV_can _ _ _ _ _ g1).2.2.1
      obtain ⟨r1, r2⟩ := gb_row s hs w hw rows c (by omega) w 0 (i + n1) [] (by omega) (by omega) rfl g3
      show ∃ q, Ev _ ((resG w (Option.map _ (ite ((1 : Int) = 1) _ none))).1, (resG w (Option.map _ (ite ((1 : Int) = 1) _ none))).2.1, (resG w (Option.map _ (ite ((1 : Int) = 1) _ none))).2.2, q)
      rw [if_pos rfl, List.drop_drop]
      cases hp : pRow w (s.data.toList.drop (i + n1)) with
      | none =>
        obtain ⟨q, hq⟩ := r2 hp
        exact ⟨q, top _ (ev_bind0 g2 (ev_if_pos rfl hq))⟩
      | some p =>
        obtain ⟨vs, n2⟩ := p
        have cn := (pRow_can w _ _ _ hp).2.1
        rw [List.length_drop] at cn
        obtain ⟨q, hq⟩ := ih (i + n1 + n2) (rows ++ [⟨vs, c⟩]) (by omega) (by omega) (by rw [List.length_append]; show rows.length + 1 ≤ _; omega)
        have h0 := r1 vs n2 hp _ hq
        refine ⟨q, top _ (ev_bind0 g2 (ev_if_pos rfl ?_))⟩
        rw [Option.bind_some, List.drop_drop, show i + (n1 + n2) = i + n1 + n2 by omega]
        have em : ∀ o : Option (List S46), (o.bind fun cs => some ((⟨vs, c⟩ : S46) :: cs)).map (rows ++ ·) = o.map ((rows ++ [⟨vs, c⟩]) ++ ·) := fun o => by cases o <;> simp
        rw [em]
        exact h0
    · rw [g1, Option.bind_none]
      by_cases ha : a = 1
      · subst ha
        exact ⟨_, top _ (ev_bind0 g2 (ev_if_pos rfl (gb_badrow s j' w rows c (by omega) hw _ 0 [] rfl (by omega) rfl)))⟩
      · exact ⟨(s, (j' : Int), true), top _ (ev_bind0 g2 (ev_if_neg ha (ev_some fun _ => rfl)))⟩
/-! #### GetBag: the specification -/
theorem getV_bound {l : List UInt8} {a b : Int} {x : List UInt8} {n : Nat} (h : getV l = some ((a, b, x), n)) : -9223372036854775808 ≤ b ∧ b ≤ 9223372036854775807 := by
  cases l with
  | nil => cases h
  | cons c t =>
    rw [getV_cons] at h
    by_cases k1 : c.toNat = 1
    · rw [if_pos k1] at h
      by_cases k : 8 ≤ t.length
      · rw [if_pos k] at h
        obtain ⟨⟨_, rfl, _⟩, _⟩ : ((1 : Int) = a ∧ wrap64 (beN (t.take 8) : Int) = b ∧ [] = x) ∧ 9 = n := by simpa using h
        unfold wrap64
        omega
      · rw [if_neg k] at h
        cases h
    rw [if_neg k1] at h
    by_cases k2 : c.toNat = 2
    · rw [if_pos k2] at h
      cases t with
      | nil => cases h
      | cons m r =>
        have e : (if m.toNat ≤ 1 then some (((2 : Int), (m.toNat : Int), ([] : List UInt8)), 2) else none) = some ((a, b, x), n) := h
        by_cases k : m.toNat ≤ 1
        · rw [if_pos k] at e
          obtain ⟨⟨_, rfl, _⟩, _⟩ : ((2 : Int) = a ∧ (m.toNat : Int) = b ∧ [] = x) ∧ 2 = n := by simpa using e
          omega
        · rw [if_neg k] at e; cases e
    rw [if_neg k2] at h
    by_cases k3 : c.toNat = 3
    · rw [if_pos k3] at h
      cases t with
      | nil => cases h
      | cons m u =>
        have e : (if m.toNat ≤ 100 ∧ m.toNat ≤ u.length then some (((3 : Int), (0 : Int), u.take m.toNat), 2 + m.toNat) else none) = some ((a, b, x), n) := h
        by_cases k : m.toNat ≤ 100 ∧ m.toNat ≤ u.length
        · rw [if_pos k] at e
          obtain ⟨⟨_, rfl, _⟩, _⟩ : ((3 : Int) = a ∧ (0 : Int) = b ∧ u.take m.toNat = x) ∧ 2 + m.toNat = n := by simpa using e
          omega
        · rw [if_neg k] at e; cases e
    rw [if_neg k3] at h
    by_cases k0 : c.toNat = 0
    · rw [if_pos k0] at h
      obtain ⟨⟨_, rfl, _⟩, _⟩ : ((0 : Int) = a ∧ (0 : Int) = b ∧ [] = x) ∧ 1 = n := by simpa using h
      omega
    · rw [if_neg k0] at h
      cases h
theorem getAt_nat {s : ByteArray} {i : Nat} (hi : i ≤ s.size) : getAt s (i : Int) = packV i (getV (s.data.toList.drop i)) := by
  unfold getAt
  rw [if_pos ⟨by omega, by omega⟩, Int.toNat_natCast]
def bX (x : S42) : Prop := -9223372036854775808 ≤ x.f1 ∧ x.f1 ≤ 9223372036854775807
def bC (w : Nat) (c : S46) : Prop := c.f0.length = w ∧ (∀ v ∈ c.f0, bX v) ∧ -9223372036854775808 ≤ c.f1 ∧ c.f1 ≤ 9223372036854775807
theorem sg_stop (s : ByteArray) (j w : Int) (rows : List S46) (acc : List S42) (b : Int) : Ev (fun k => spec_GetBag.l1 k s (-1) j w rows acc b) (0, [], false) := by
  by_cases h : j < w
  · exact Ev.step (fun k => rfl) (ev_if_pos h (ev_if_neg (by omega) (ev_if_pos (by omega) (ev_some fun _ => rfl))))
  · exact Ev.step (fun k => rfl) (ev_if_neg h (ev_if_pos (by omega) (ev_some fun _ => rfl)))
theorem sg_row_any (s : ByteArray) (hs : s.size ≤ 1048576) (w : Nat) (hw : w ≤ 12) (rows : List S46) (hr : rows.length ≤ 1048576) (b : Int) (G : Int × List S46 × Bool → Prop) (hG : G (0, [], false)) (i0 : Nat)
    (hF : ∀ (i' : Nat) (acc' : List S42), i' ≤ s.size → i0 ≤ i' → acc'.length = w → (∀ v ∈ acc', bX v) → ∃ r, Ev (fun k => spec_GetBag.l0 k s (i' : Int) (w : Int) (rows ++ [⟨acc', b⟩])) r ∧ G r) :
    ∀ (m j i : Nat) (acc : List S42), w - j = m → j ≤ w → acc.length = j → i ≤ s.size → i0 ≤ i → (∀ v ∈ acc, bX v) → ∃ r, Ev (fun k => spec_GetBag.l1 k s (i : Int) (j : Int) (w : Int) rows acc b) r ∧ G r := by
  intro m
  induction m with
  | zero =>
    intro j i acc h1 h2 h3 h4 h5 h6
    obtain ⟨r, hr', hg⟩ := hF i acc h4 h5 (by omega) h6
    exact ⟨r, Ev.step (fun k => rfl) (ev_if_neg (by omega) (ev_if_neg (by omega) (ev_if_pos (by omega) hr'))), hg⟩
  | succ m ih =>
    intro j i acc h1 h2 h3 h4 h5 h6
    have hj : j < w := by omega
    have sv := specGetValue_is s (i : Int) (by omega)
    rw [getAt_nat h4] at sv
    cases hv : getV (s.data.toList.drop i) with
    | none =>
      rw [hv] at sv
      exact ⟨_, Ev.step (fun k => rfl) (ev_if_pos (by omega) (ev_if_pos (by omega) (Ev.bind sv (ev_if_pos (by omega) (sg_stop s _ _ rows _ b))))), hG⟩
    | some p =>
      obtain ⟨⟨a, c, x⟩, n⟩ := p
      rw [hv] at sv
      have cn := (getV_can _ _ _ _ _ hv).2.1
      rw [List.length_drop, ← size_data] at cn
      have gb := getV_bound hv
      obtain ⟨r, hr', hg⟩ := ih (j + 1) (i + n) (acc ++ [⟨a, c, mkB x⟩]) (by omega) (by omega) (by rw [List.length_append, h3]; rfl) (by omega) (by omega) (fun v hv' => by
        rcases List.mem_append.1 hv' with hv' | hv'
        · exact h6 v hv'
        · rw [List.mem_singleton.1 hv']; exact gb)
      refine ⟨r, Ev.step (fun k => rfl) (ev_if_pos (by omega) (ev_if_pos (by omega) (Ev.bind sv (ev_if_pos (by omega) ?_)))), hg⟩
      rw [wrap_succ hj (by omega)]
      exact hr'
/-- What the specification answers of rows that it has read. -/
def finG (s : ByteArray) (w : Nat) (cs : List S46) (r : Int × List S46 × Bool) : Prop := (BagP (w : Int) cs ∧ encB (w : Int) cs = s.data.toList ∧ r = ((w : Int), cs, true)) ∨ (¬ (BagP (w : Int) cs ∧ encB (w : Int) cs = s.data.toList) ∧ r = (0, [], false))
theorem sg_fin (s : ByteArray) (h0 : 0 < s.size) (w : Nat) (x5 : Int) (cs : List S46) (hn : cs.length ≤ 1048576) (hx : ∀ c ∈ cs, c.f0.length ≤ 1048576) : ∃ r, Ev (fun k => spec_GetBag.j2 k s x5 false (w : Int) cs) r ∧ finG s w cs r := by
  have pb := specPutBag_is (w : Int) cs hn hx
  have hj := fun (q : Bool) (k : Nat) => (show spec_GetBag.j2 (k + 1) s x5 q (w : Int) cs = ite (q = true) _ ((spec_PutBag.f k (w : Int) cs).bind fun t => ite (t.toList = s.toList) (some ((w : Int), cs, true)) (some (0, [], false))) from rfl)
  by_cases hb : BagP (w : Int) cs
  · rw [if_pos hb] at pb
    by_cases he : encB (w : Int) cs = s.data.toList
    · exact ⟨_, Ev.step (fun k => (hj false k).trans (if_neg Bool.false_ne_true)) (Ev.bind pb (ev_if_pos (by rw [toList_mkB, toList_data, he]) (ev_some fun _ => rfl))), .inl ⟨hb, he, rfl⟩⟩
    · exact ⟨_, Ev.step (fun k => (hj false k).trans (if_neg Bool.false_ne_true)) (Ev.bind pb (ev_if_neg (by rw [toList_mkB, toList_data]; exact he) (ev_some fun _ => rfl))), .inr ⟨fun h => he h.2, rfl⟩⟩
  · rw [if_neg hb] at pb
    refine ⟨_, Ev.step (fun k => (hj false k).trans (if_neg Bool.false_ne_true)) (Ev.bind pb (ev_if_neg ?_ (ev_some fun _ => rfl))), .inr ⟨fun h => hb h.1, rfl⟩⟩
    rw [toList_mkB, toList_data]
    intro g
    rw [size_data, ← g] at h0
    exact absurd h0 (by simp)
theorem sg_any (s : ByteArray) (hs : s.size ≤ 1048576) (h0 : 0 < s.size) (w : Nat) (hw : w ≤ 12) :
    ∀ (f i : Nat) (rows : List S46), s.size - i ≤ f → i ≤ s.size → rows.length ≤ 401 → (∀ c ∈ rows, bC w c) → ∃ r, Ev (fun k => spec_GetBag.l0 k s (i : Int) (w : Int) rows) r ∧ (r = (0, [], false) ∨ ∃ cs, (∀ c ∈ cs, bC w c) ∧ BagP (w : Int) cs ∧ encB (w : Int) cs = s.data.toList ∧ r = ((w : Int), cs, true)) := by
  have hj := fun (i : Nat) (rows : List S46) (q : Bool) (k : Nat) => (show spec_GetBag.j2 (k + 1) s (i : Int) q (w : Int) rows = ite (q = true) ((spec_GetValue.f k s (i : Int)).bind fun bt155 => (spec_GetBag.l1 k s bt155.2.2.2 0 (w : Int) rows ([] : List (S42)) bt155.2.1)) _ from rfl)
  have fin : ∀ (i : Nat) (rows : List S46), rows.length ≤ 401 → (∀ c ∈ rows, bC w c) → ∃ r, Ev (fun k => spec_GetBag.j2 k s (i : Int) false (w : Int) rows) r ∧ (r = (0, [], false) ∨ ∃ cs, (∀ c ∈ cs, bC w c) ∧ BagP (w : Int) cs ∧ encB (w : Int) cs = s.data.toList ∧ r = ((w : Int), cs, true)) := fun i rows h1 h2 => by
    obtain ⟨r, hr, hf⟩ := sg_fin s h0 w (i : Int) rows (by omega) (fun c hc => by have := (h2 c hc).1; omega)
    rcases hf with ⟨g1, g2, g3⟩ | ⟨_, g3⟩
    · exact ⟨r, hr, .inr ⟨rows, h2, g1, g2, g3⟩⟩
    · exact ⟨r, hr, .inl g3⟩
  intro f
  induction f with
  | zero =>
    intro i rows h1 h2 h3 h4
    obtain ⟨r, hr, hg⟩ := fin i rows h3 h4
    exact ⟨r, Ev.step (fun k => rfl) (ev_if_neg (by omega) hr), hg⟩
  | succ f ih =>
    intro i rows h1 h2 h3 h4
    by_cases hi : (i : Int) < (s.size : Int)
    case neg =>
      obtain ⟨r, hr, hg⟩ := fin i rows h3 h4
      exact ⟨r, Ev.step (fun k => rfl) (ev_if_neg hi hr), hg⟩
    by_cases hc : (rows.length : Int) ≤ 400
    case neg =>
      obtain ⟨r, hr, hg⟩ := fin i rows h3 h4
      refine ⟨r, Ev.step (fun k => rfl) (ev_if_pos hi ?_), hg⟩
      rw [decide_eq_false hc]
      exact hr
    have top : ∀ r, Ev (fun k => (spec_GetValue.f k s (i : Int)).bind fun bt155 => (spec_GetBag.l1 k s bt155.2.2.2 0 (w : Int) rows ([] : List (S42)) bt155.2.1)) r → Ev (fun k => spec_GetBag.l0 k s (i : Int) (w : Int) rows) r := fun r hr => by
      refine Ev.step (fun k => rfl) (ev_if_pos hi ?_)
      rw [decide_eq_true hc]
      exact Ev.step (fun k => (hj i rows true k).trans (if_pos rfl)) hr
    have sv := specGetValue_is s (i : Int) (by omega)
    rw [getAt_nat h2] at sv
    cases hv : getV (s.data.toList.drop i) with
    | none =>
      rw [hv] at sv
      exact ⟨_, top _ (Ev.bind sv (sg_stop s _ _ rows _ _)), .inl rfl⟩
    | some p =>
      obtain ⟨⟨a, c, x⟩, n⟩ := p
      rw [hv] at sv
      have cn := getV_can _ _ _ _ _ hv
      have cn2 := cn.2.1
      have cn3 := cn.2.2.1
      rw [List.length_drop, ← size_data] at cn2
      have gb := getV_bound hv
      obtain ⟨r, hr, hg⟩ := sg_row_any s hs w hw rows (by omega) c (fun r => r = (0, [], false) ∨ ∃ cs, (∀ c ∈ cs, bC w c) ∧ BagP (w : Int) cs ∧ encB (w : Int) cs = s.data.toList ∧ r = ((w : Int), cs, true)) (.inl rfl) (i + n)
        (fun i' acc' g1 g2 g3 g4 => ih i' (rows ++ [⟨acc', c⟩]) (by omega) g1 (by rw [List.length_append]; show rows.length + 1 ≤ _; omega) (fun y hy => by
          rcases List.mem_append.1 hy with hy | hy
          · exact h4 y hy
          · rw [List.mem_singleton.1 hy]; exact ⟨g3, g4, gb⟩)) w 0 (i + n) [] (by omega) (by omega) rfl (by omega) (by omega) (fun v hv' => by cases hv')
      exact ⟨r, top _ (Ev.bind sv hr), hg⟩
theorem sg_row_pos (s : ByteArray) (hs : s.size ≤ 1048576) (w : Nat) (hw : w ≤ 12) (rows : List S46) (hr : rows.length ≤ 1048576) (b : Int) :
    ∀ (m j i : Nat) (acc vs : List S42) (n : Nat), w - j = m → j ≤ w → acc.length = j → i ≤ s.size → pRow m (s.data.toList.drop i) = some (vs, n) →
      ∀ r, Ev (fun k => spec_GetBag.l0 k s ((i + n : Nat) : Int) (w : Int) (rows ++ [⟨acc ++ vs, b⟩])) r → Ev (fun k => spec_GetBag.l1 k s (i : Int) (j : Int) (w : Int) rows acc b) r := by
  intro m
  induction m with
  | zero =>
    intro j i acc vs n h1 h2 h3 h4 h r hr'
    obtain ⟨rfl, rfl⟩ : [] = vs ∧ 0 = n := by simpa [pRow] using h
    rw [List.append_nil] at hr'
    exact Ev.step (fun k => rfl) (ev_if_neg (by omega) (ev_if_neg (by omega) (ev_if_pos (by omega) hr')))
  | succ m ih =>
    intro j i acc vs n h1 h2 h3 h4 h r hr'
    have hj : j < w := by omega
    have sv := specGetValue_is s (i : Int) (by omega)
    rw [getAt_nat h4] at sv
    obtain ⟨⟨⟨a, c, x⟩, n1⟩, g1, h⟩ := Option.bind_eq_some_iff.1 h
    obtain ⟨⟨vs2, n2⟩, g2, h⟩ := Option.bind_eq_some_iff.1 h
    obtain ⟨rfl, rfl⟩ : ((⟨a, c, mkB x⟩ : S42) :: vs2) = vs ∧ n1 + n2 = n := by simpa using h
    rw [g1] at sv
    have cn := (getV_can _ _ _ _ _ g1).2.1
    rw [List.length_drop, ← size_data] at cn
    rw [List.drop_drop] at g2
    refine Ev.step (fun k => rfl) (ev_if_pos (by omega) (ev_if_pos (by omega) (Ev.bind sv (ev_if_pos (by omega) ?_))))
    rw [wrap_succ hj (by omega)]
    refine ih (j + 1) (i + n1) (acc ++ [⟨a, c, mkB x⟩]) vs2 n2 (by omega) (by omega) (by rw [List.length_append, h3]; rfl) (by omega) g2 r ?_
    rw [List.append_assoc, List.singleton_append, show i + n1 + n2 = i + (n1 + n2) by omega]
    exact hr'
theorem sg_pos (s : ByteArray) (hs : s.size ≤ 1048576) (w : Nat) (hw : w ≤ 12) :
    ∀ (f i : Nat) (rows cs : List S46), i ≤ s.size → pBag w f (s.data.toList.drop i) = some cs → rows.length + cs.length ≤ 400 →
      ∀ r, Ev (fun k => spec_GetBag.j2 k s (s.size : Int) false (w : Int) (rows ++ cs)) r → Ev (fun k => spec_GetBag.l0 k s (i : Int) (w : Int) rows) r := by
  have hj := fun (i : Nat) (rows : List S46) (q : Bool) (k : Nat) => (show spec_GetBag.j2 (k + 1) s (i : Int) q (w : Int) rows = ite (q = true) ((spec_GetValue.f k s (i : Int)).bind fun bt155 => (spec_GetBag.l1 k s bt155.2.2.2 0 (w : Int) rows ([] : List (S42)) bt155.2.1)) _ from rfl)
  have hsz := size_data s
  have stop : ∀ (i : Nat) (rows cs : List S46), i ≤ s.size → s.data.toList.drop i = [] → cs = [] → ∀ r, Ev (fun k => spec_GetBag.j2 k s (s.size : Int) false (w : Int) (rows ++ cs)) r → Ev (fun k => spec_GetBag.l0 k s (i : Int) (w : Int) rows) r := fun i rows cs h1 hd hc r hr => by
    have := congrArg List.length hd
    rw [List.length_drop, List.length_nil] at this
    obtain rfl : i = s.size := by omega
    subst hc
    rw [List.append_nil] at hr
    exact Ev.step (fun k => rfl) (ev_if_neg (by omega) hr)
  intro f
  induction f with
  | zero =>
    intro i rows cs h1 h2 h3 r hr
    cases hd : s.data.toList.drop i with
    | nil =>
      rw [hd] at h2
      exact stop i rows cs h1 hd (by simpa [pBag] using h2.symm) r hr
    | cons c t => rw [hd] at h2; cases h2
  | succ f ih =>
    intro i rows cs h1 h2 h3 r hr
    by_cases hd : s.data.toList.drop i = []
    · rw [hd] at h2
      exact stop i rows cs h1 hd (by simpa [pBag] using h2.symm) r hr
    have hlt : i < s.size := by
      rcases (show i < s.size ∨ s.size ≤ i by omega) with g | g
      · exact g
      · exact absurd (List.drop_of_length_le (by omega)) hd
    rw [pBag_step w f _ hd] at h2
    have sv := specGetValue_is s (i : Int) (by omega)
    rw [getAt_nat h1] at sv
    obtain ⟨⟨⟨a, b, x⟩, n1⟩, g1, h⟩ := Option.bind_eq_some_iff.1 h2
    by_cases ha : a = 1
    case neg =>
      have h' : (none : Option (List S46)) = some cs := by rw [← h]; exact (if_neg ha).symm
      cases h'
    subst ha
    replace h := (if_pos rfl).symm.trans h
    obtain ⟨⟨vs, n2⟩, g2, h⟩ := Option.bind_eq_some_iff.1 h
    obtain ⟨cs', g3, h⟩ := Option.bind_eq_some_iff.1 h
    obtain rfl : ((⟨vs, b⟩ : S46) :: cs') = cs := by simpa using h
    rw [g1] at sv
    have cn := (getV_can _ _ _ _ _ g1).2.1
    rw [List.length_drop, ← hsz] at cn
    have cr := (pRow_can w _ _ _ g2).2.1
    rw [List.length_drop, List.length_drop, ← hsz] at cr
    rw [List.drop_drop] at g2 g3
    rw [List.length_cons] at h3
    refine Ev.step (fun k => rfl) (ev_if_pos (by omega) ?_)
    rw [decide_eq_true (show (rows.length : Int) ≤ 400 by omega)]
    refine Ev.step (fun k => (hj i rows true k).trans (if_pos rfl)) (Ev.bind sv ?_)
    refine sg_row_pos s hs w hw rows (by omega) b w 0 (i + n1) [] vs n2 (by omega) (by omega) rfl (by omega) g2 r ?_
    rw [show i + n1 + n2 = i + (n1 + n2) by omega]
    refine ih (i + (n1 + n2)) (rows ++ [⟨vs, b⟩]) cs' (by omega) g3 (by rw [List.length_append]; show rows.length + 1 + _ ≤ _; omega) r ?_
    rw [List.append_assoc, List.singleton_append]
    exact hr
/-- What both answer. -/
noncomputable def resS (s : ByteArray) : Int × List S46 × Bool := match s.data.toList with
  | [] => (0, [], false)
  | c :: t => if c.toNat ≤ 12 then resG c.toNat (pBag c.toNat s.size t) else (0, [], false)
theorem bagP_rows {w : Nat} {cs : List S46} (h : BagP (w : Int) cs) : ∀ c ∈ cs, c.f0.length = w ∧ (∀ v ∈ c.f0, okV v.f0 v.f1 v.f2.data.toList = true) := (forall_getD z46 (p := fun c => c.f0.length = w ∧ (∀ v ∈ c.f0, okV v.f0 v.f1 v.f2.data.toList = true))).1 fun j hj => by
  have hr := (h.1 j hj).1
  exact ⟨by have := hr.2; omega, hr.1⟩
open Classical in
theorem specGetBag_is (s : ByteArray) (hs : s.size ≤ 1048576) : Ev (fun k => spec_GetBag.f k s) (resS s) := by
  have hsz := size_data s
  have hj := fun (q : Bool) (k : Nat) => (show spec_GetBag.j0 (k + 1) s q = ite (q = true) (some (0, ([] : List (S46)), false)) _ from rfl)
  unfold resS
  cases hd : s.data.toList with
  | nil =>
    have hl : s.toList = [] := by rw [toList_data, hd]
    exact Ev.congr (fun k => if_pos hl) (Ev.step (fun k => (hj true k).trans (if_pos rfl)) (ev_some fun _ => rfl))
  | cons c t =>
    have hl : s.toList ≠ [] := by rw [toList_data, hd]; simp
    have h0 : 0 < s.size := by rw [hsz, hd]; simp
    have hd0 : s.data.toList.drop 0 = c :: t := by rw [List.drop_zero, hd]
    have hd1 : s.data.toList.drop 1 = t := by rw [hd]; rfl
    have hb : bt s 0 = (c.toNat : Int) := bt_at' (i := 0) hd0
    have hwb : wrap64 (bt s 0) = (c.toNat : Int) := by rw [hb, wrap_byte]
    refine Ev.congr (fun k => (if_neg hl).trans (if_pos (show 0 < (s.size : Int) by omega))) ?_
    rw [hwb]
    by_cases hc : c.toNat ≤ 12
    case neg =>
      show Ev _ (ite _ _ _)
      rw [if_neg hc, decide_eq_true (show (c.toNat : Int) > 12 by omega)]
      exact Ev.step (fun k => (hj true k).trans (if_pos rfl)) (ev_some fun _ => rfl)
    show Ev _ (ite _ _ _)
    rw [if_pos hc, decide_eq_false (show ¬ (c.toNat : Int) > 12 by omega)]
    have hj2 := fun (q : Bool) (k : Nat) => (show spec_GetBag.j0 (k + 1) s q = ite (q = true) _ (ite (0 < (s.size : Int)) (spec_GetBag.l0 k s 1 (wrap64 (bt s 0)) ([] : List (S46))) none) from rfl)
    refine Ev.step (fun k => (hj2 false k).trans ((if_neg Bool.false_ne_true).trans (if_pos (show 0 < (s.size : Int) by omega)))) ?_
    rw [hwb]
    obtain ⟨r, hr, hg⟩ := sg_any s hs h0 c.toNat hc s.size 1 [] (by omega) (by omega) (by simp) (fun y hy => by cases hy)
    have key : ∀ cs, pBag c.toNat s.size t = some cs → BagP (c.toNat : Int) cs → Ev (fun k => spec_GetBag.l0 k s (1 : Int) (c.toNat : Int) []) ((c.toNat : Int), cs, true) := fun cs hp hbp => by
      obtain ⟨r', hr', hf⟩ := sg_fin s h0 c.toNat (s.size : Int) cs (by have := hbp.2.2; omega) (fun y hy => by have := (bagP_rows hbp y hy).1; omega)
      have he : encB (c.toNat : Int) cs = s.data.toList := by
        have := pBag_can c.toNat s.size t cs hp
        unfold encB
        rw [this, hd, show ((c.toNat : Int) % 256) = (c.toNat : Int) by have := c.toNat_lt; omega, u8_of]
      rcases hf with ⟨_, _, g3⟩ | ⟨g, _⟩
      · have := sg_pos s hs c.toNat hc s.size 1 [] cs (by omega) (by rw [hd1]; exact hp) (by have := hbp.2.2; simpa using this) r' hr'
        rw [g3] at this
        exact this
      · exact absurd ⟨hbp, he⟩ g
    unfold resG
    cases hp : pBag c.toNat s.size t with
    | none =>
      rcases hg with rfl | ⟨cs, k1, k2, k3, rfl⟩
      · exact hr
      · exfalso
        have hte : cs.flatMap encC = t := by
          unfold encB at k3
          rw [hd] at k3
          exact (List.cons.inj k3).2
        have := pBag_enc c.toNat cs s.size (by rw [hte, hsz, hd]; simp) (fun y hy => ⟨(bagP_rows k2 y hy).1, fun v hv => ⟨(bagP_rows k2 y hy).2 v hv, (k1 y hy).2.1 v hv⟩, (k1 y hy).2.2⟩)
        rw [hte, hp] at this
        cases this
    | some cs =>
      show Ev _ (ite _ _ _)
      by_cases hbp : BagP (c.toNat : Int) cs
      · rw [if_pos hbp]
        exact key cs hp hbp
      · rw [if_neg hbp]
        rcases hg with rfl | ⟨cs', k1, k2, k3, rfl⟩
        · exact hr
        · exfalso
          have hte : cs'.flatMap encC = t := by
            unfold encB at k3
            rw [hd] at k3
            exact (List.cons.inj k3).2
          have := pBag_enc c.toNat cs' s.size (by rw [hte, hsz, hd]; simp) (fun y hy => ⟨(bagP_rows k2 y hy).1, fun v hv => ⟨(bagP_rows k2 y hy).2 v hv, (k1 y hy).2.1 v hv⟩, (k1 y hy).2.2⟩)
          rw [hte, hp] at this
          obtain rfl := Option.some.inj this
          exact hbp k2
theorem implGetBag_is (s : ByteArray) (hs : s.size ≤ 1048576) : Ev (fun k => impl_GetBag.f k s) (resS s) := by
  have hsz := size_data s
  have hj := fun (q p : Bool) (i w : Int) (k : Nat) => (show impl_GetBag.j0 (k + 1) s q s i p w = ite (q = true) (some (0, ([] : List (S46)), false, s, i, p)) (impl_GetBag.l0 k s s i p w []) from rfl)
  have out : ∀ {a : Int} {b : List S46} {c : Bool} {q : ByteArray × Int × Bool}, Ev (fun k => impl_GetBag.r k s s 0 false) (a, b, c, q) → Ev (fun k => impl_GetBag.f k s) (a, b, c) := fun h => Ev.bind h (ev_some fun _ => rfl)
  unfold resS
  cases hd : s.data.toList with
  | nil =>
    have hl : s.size = 0 := by rw [hsz, hd]; rfl
    have h1 : impl_reader_size.f s 0 false 1 = some (0, s, ((0 : Nat) : Int), true) := size_short s 0 1 (by omega) (by omega) (by omega) (by omega)
    exact out (q := (s, 0, true)) (ev_bind0 h1 (ev_if_pos rfl (Ev.step (fun k => (hj true true _ _ k).trans (if_pos rfl)) (ev_some fun _ => rfl))))
  | cons c t =>
    have h0 : 0 < s.size := by rw [hsz, hd]; simp
    have hd1 : s.data.toList.drop 1 = t := by rw [hd]; rfl
    have hd0 : s.data.toList.drop 0 = c :: t := by rw [List.drop_zero, hd]
    have h1 : impl_reader_size.f s 0 false 1 = some ((c.toNat : Int), s, ((1 : Nat) : Int), false) := by
      have := size_ok s 0 1 (by omega) (by omega)
      rw [hd0, List.take_succ_cons, List.take_zero, beN_one, wrap_byte] at this
      exact this
    by_cases hc : c.toNat ≤ 12
    case neg =>
      show Ev _ (ite _ _ _)
      rw [if_neg hc]
      refine out (q := (s, 1, false)) (ev_bind0 h1 (ev_if_neg (by simp) ?_))
      rw [show (decide ((((c.toNat : Int), s, ((1 : Nat) : Int), false) : Int × ByteArray × Int × Bool).1 > 12)) = true from decide_eq_true (show (c.toNat : Int) > 12 by omega)]
      exact Ev.step (fun k => (hj true false _ _ k).trans (if_pos rfl)) (ev_some fun _ => rfl)
    show Ev _ (ite _ _ _)
    rw [if_pos hc]
    obtain ⟨q, hq⟩ := gb_loop s hs c.toNat hc s.size 1 [] (by omega) (by omega) (by simp)
    have em : ∀ o : Option (List S46), o.map (([] : List S46) ++ ·) = o := fun o => by cases o <;> simp
    rw [em, hd1] at hq
    refine out (q := q) (ev_bind0 h1 (ev_if_neg (by simp) ?_))
    rw [show (decide ((((c.toNat : Int), s, ((1 : Nat) : Int), false) : Int × ByteArray × Int × Bool).1 > 12)) = false from decide_eq_false (show ¬ (c.toNat : Int) > 12 by omega)]
    exact Ev.step (fun k => (hj false false _ _ k).trans (if_neg Bool.false_ne_true)) hq
open Classical in
theorem resS_small (s : ByteArray) : (resS s).2.1.length ≤ 400 ∧ ∀ c ∈ (resS s).2.1, c.f0.length ≤ 12 := by
  have none_ : (([] : List S46).length ≤ 400 ∧ ∀ c ∈ ([] : List S46), c.f0.length ≤ 12) := ⟨by simp, fun c hc => by cases hc⟩
  unfold resS
  cases s.data.toList with
  | nil => exact none_
  | cons c t =>
    show (ite (c.toNat ≤ 12) _ _ : Int × List S46 × Bool).2.1.length ≤ 400 ∧ ∀ y ∈ (ite (c.toNat ≤ 12) _ _ : Int × List S46 × Bool).2.1, y.f0.length ≤ 12
    by_cases hc : c.toNat ≤ 12
    case neg => rw [if_neg hc]; exact none_
    rw [if_pos hc]
    unfold resG
    cases pBag c.toNat s.size t with
    | none => exact none_
    | some cs =>
      show (ite (BagP (c.toNat : Int) cs) _ _ : Int × List S46 × Bool).2.1.length ≤ 400 ∧ ∀ y ∈ (ite (BagP (c.toNat : Int) cs) _ _ : Int × List S46 × Bool).2.1, y.f0.length ≤ 12
      by_cases hb : BagP (c.toNat : Int) cs
      · rw [if_pos hb]
        exact ⟨hb.2.2, fun y hy => by have := (bagP_rows hb y hy).1; show y.f0.length ≤ 12; omega⟩
      · rw [if_neg hb]; exact none_
/-! #### marks in a bag's rows -/
theorem markText_loop : ∀ (N n : Nat) (x : ByteArray), n ≤ N → x.size + N ≤ 1000000000000 → ∃ t, Ev (fun k => laws_markText.l0 k (n : Int) x) t
  | 0, n, x, h1, h2 => ⟨_, Ev.step (fun k => rfl) (ev_if_neg (by omega) (ev_if_pos (by omega) (ev_some fun _ => rfl)))⟩
  | N + 1, n, x, h1, h2 => by
    by_cases h : (n : Int) > 0
    · have e : wrap64 (Int.tdiv (n : Int) 10) = ((n / 10 : Nat) : Int) := by
        rw [show Int.tdiv (n : Int) 10 = ((n / 10 : Nat) : Int) from by rw [Int.tdiv_eq_ediv_of_nonneg (by omega)]; omega, wrap_id (by omega) (by omega)]
      have hz : ∀ y : Int, (strOfNums [y]).size = 1 := fun y => by rw [strOfNums_mk, mkB_size]; rfl
      obtain ⟨t, ht⟩ := markText_loop N (n / 10) (strOfNums [(wrap64 (48 + (Int.tmod (n : Int) 10))) % 256] ++ x) (by omega) (by rw [ByteArray.size_append, hz]; omega)
      refine ⟨t, Ev.step (fun k => rfl) (ev_if_pos h (ev_bind0 rfl (ev_if_pos (by rw [hz]; omega) ?_)))⟩
      rw [e]
      exact ht
    · exact ⟨_, Ev.step (fun k => rfl) (ev_if_neg h (ev_if_pos (by omega) (ev_some fun _ => rfl)))⟩
theorem markText_ex (n : Nat) (h : n ≤ 100000000000) : ∃ t, Ev (fun k => laws_markText.f k (n : Int)) t := by
  by_cases h0 : (n : Int) ≤ 0
  · exact ⟨_, Ev.congr (fun k => if_pos h0) (ev_some fun _ => rfl)⟩
  · obtain ⟨t, ht⟩ := markText_loop n n ⟨#[]⟩ (Nat.le_refl _) (by show 0 + n ≤ _; omega)
    exact ⟨t, Ev.congr (fun k => if_neg h0) ht⟩
open Classical in
noncomputable def mt (n : Nat) : ByteArray := if h : ∃ t, Ev (fun k => laws_markText.f k (n : Int)) t then h.choose else ⟨#[]⟩
theorem mt_is (n : Nat) (h : n ≤ 100000000000) : Ev (fun k => laws_markText.f k (n : Int)) (mt n) := by
  unfold mt
  rw [dif_pos (markText_ex n h)]
  exact (markText_ex n h).choose_spec
noncomputable def mVs : Nat → Nat → List S42
  | 0, _ => []
  | m + 1, n => ⟨(n : Int), ((n + 1 : Nat) : Int), mt (n + 2)⟩ :: mVs m (n + 3)
theorem set_mid {α : Type} (pre : List α) (v y : α) (rest : List α) : (pre ++ v :: rest).set pre.length y = pre ++ y :: rest := by
  induction pre with
  | nil => rfl
  | cons a pre ih => simp [ih]
theorem getD_mid {α : Type} (pre : List α) (v : α) (rest : List α) (z : α) : (pre ++ v :: rest).getD pre.length z = v := by
  induction pre with
  | nil => rfl
  | cons a pre ih => exact ih
theorem wrap_add {a b c : Nat} (h : a + b = c) (hc : c ≤ 1000000000000) : wrap64 ((a : Int) + (b : Int)) = (c : Int) := by rw [wrap_id (by omega) (by omega)]; omega
theorem markV_loop : ∀ (rest pre : List S42) (n : Nat), pre.length + rest.length ≤ 1000000 → n + 3 * rest.length ≤ 1000000000 →
    Ev (fun k => laws_markValueS.l0 k (pre ++ rest) (n : Int) (pre.length : Int)) (((n + 3 * rest.length : Nat) : Int), pre ++ mVs rest.length n)
  | [], pre, n, h1, h2 => Ev.step (fun k => rfl) (ev_if_neg (by simp) (ev_some fun _ => rfl))
  | v :: rest, pre, n, h1, h2 => by
    rw [List.length_cons] at h1 h2
    have w1 : wrap64 ((n : Int) + 1) = ((n + 1 : Nat) : Int) := wrap_add (b := 1) rfl (by omega)
    have w2 : wrap64 (((n + 1 : Nat) : Int) + 1) = ((n + 2 : Nat) : Int) := wrap_add (b := 1) rfl (by omega)
    have w3 : wrap64 (((n + 2 : Nat) : Int) + 1) = ((n + 3 : Nat) : Int) := wrap_add (b := 1) rfl (by omega)
    have w4 : wrap64 ((pre.length : Int) + 1) = ((pre.length + 1 : Nat) : Int) := wrap_add (b := 1) rfl (by omega)
    have g : ∀ y : S42, rd_T42 (pre ++ y :: rest) (pre.length : Int) = y := fun y => by unfold rd_T42; rw [Int.toNat_natCast, getD_mid]
    have ih := markV_loop rest (pre ++ [⟨(n : Int), ((n + 1 : Nat) : Int), mt (n + 2)⟩]) (n + 3) (by rw [List.length_append]; show pre.length + 1 + _ ≤ _; omega) (by omega)
    rw [List.append_assoc, List.singleton_append, List.append_assoc, List.singleton_append, List.length_append, show n + 3 + 3 * rest.length = n + 3 * (rest.length + 1) by omega] at ih
    refine Ev.step (fun k => rfl) (ev_if_pos (by rw [List.length_append, List.length_cons]; omega) (ev_if_pos (by omega) (ev_bind0 rfl (ev_bind0 rfl ?_))))
    simp only [Int.toNat_natCast, g, set_mid, w1, w2, w3, w4]
    exact Ev.bind (mt_is (n + 2) (by omega)) ih
theorem heldV_loop : ∀ (m : Nat) (pre : List S42) (n : Nat), pre.length + m ≤ 1000000 → n + 3 * m ≤ 1000000000 → Ev (fun k => laws_heldValueS.l0 k (pre ++ mVs m n) (n : Int) (pre.length : Int)) ((n + 3 * m : Nat) : Int)
  | 0, pre, n, h1, h2 => Ev.step (fun k => rfl) (ev_if_neg (by simp [mVs]) (ev_some fun _ => rfl))
  | m + 1, pre, n, h1, h2 => by
    have w1 : wrap64 ((n : Int) + 1) = ((n + 1 : Nat) : Int) := wrap_add (b := 1) rfl (by omega)
    have w2 : wrap64 (((n + 1 : Nat) : Int) + 1) = ((n + 2 : Nat) : Int) := wrap_add (b := 1) rfl (by omega)
    have w3 : wrap64 (((n + 2 : Nat) : Int) + 1) = ((n + 3 : Nat) : Int) := wrap_add (b := 1) rfl (by omega)
    have w4 : wrap64 ((pre.length : Int) + 1) = ((pre.length + 1 : Nat) : Int) := wrap_add (b := 1) rfl (by omega)
    have g : rd_T42 (pre ++ mVs (m + 1) n) (pre.length : Int) = ⟨(n : Int), ((n + 1 : Nat) : Int), mt (n + 2)⟩ := by unfold rd_T42; rw [Int.toNat_natCast]; exact getD_mid _ _ _ _
    have ih := heldV_loop m (pre ++ [⟨(n : Int), ((n + 1 : Nat) : Int), mt (n + 2)⟩]) (n + 3) (by rw [List.length_append]; show pre.length + 1 + _ ≤ _; omega) (by omega)
    rw [List.append_assoc, List.singleton_append, List.length_append, show n + 3 + 3 * m = n + 3 * (m + 1) by omega] at ih
    refine Ev.step (fun k => rfl) (ev_if_pos (by rw [List.length_append]; show (pre.length : Int) < ((pre.length + ((mVs m (n + 3)).length + 1) : Nat) : Int); omega) (ev_if_pos (by omega) (ev_if_pos (by rw [g]) (ev_if_pos (by rw [g, w1]) ?_))))
    simp only [g, w1, w2, w3, w4]
    exact Ev.bind (mt_is (n + 2) (by omega)) (ev_if_pos rfl ih)
noncomputable def mCs : List Nat → Nat → List S46
  | [], _ => []
  | l :: ls, n => ⟨mVs l n, ((n + 3 * l : Nat) : Int)⟩ :: mCs ls (n + 3 * l + 1)
def endC : List Nat → Nat → Nat
  | [], n => n
  | l :: ls, n => endC ls (n + 3 * l + 1)
theorem mVs_len : ∀ (m n : Nat), (mVs m n).length = m
  | 0, _ => rfl
  | m + 1, n => by unfold mVs; rw [List.length_cons, mVs_len m]
theorem markC_loop : ∀ (rest pre : List S46) (n : Nat), (∀ c ∈ rest, c.f0.length ≤ 12) → pre.length + rest.length ≤ 1000000 → n + 40 * rest.length ≤ 100000000 →
    Ev (fun k => laws_markCountedS.l0 k (pre ++ rest) (n : Int) (pre.length : Int)) ((endC (rest.map fun c => c.f0.length) n : Int), pre ++ mCs (rest.map fun c => c.f0.length) n)
  | [], pre, n, h0, h1, h2 => Ev.step (fun k => rfl) (ev_if_neg (by simp) (ev_some fun _ => rfl))
  | c :: rest, pre, n, h0, h1, h2 => by
    have hc := h0 c (by simp)
    rw [List.length_cons] at h1 h2
    have w3 : wrap64 (((n + 3 * c.f0.length : Nat) : Int) + 1) = ((n + 3 * c.f0.length + 1 : Nat) : Int) := wrap_add (b := 1) rfl (by omega)
    have w4 : wrap64 ((pre.length : Int) + 1) = ((pre.length + 1 : Nat) : Int) := wrap_add (b := 1) rfl (by omega)
    have g : rd_T46 (pre ++ c :: rest) (pre.length : Int) = c := by unfold rd_T46; rw [Int.toNat_natCast, getD_mid]
    have ih := markC_loop rest (pre ++ [⟨mVs c.f0.length n, ((n + 3 * c.f0.length : Nat) : Int)⟩]) (n + 3 * c.f0.length + 1) (fun y hy => h0 y (by simp [hy])) (by rw [List.length_append]; show pre.length + 1 + _ ≤ _; omega) (by omega)
    rw [List.append_assoc, List.singleton_append, List.append_assoc, List.singleton_append, List.length_append] at ih
    have hv := markV_loop c.f0 [] n (by simp; omega) (by omega)
    refine Ev.step (fun k => rfl) (ev_if_pos (by rw [List.length_append, List.length_cons]; omega) (ev_if_pos (by omega) ?_))
    rw [g]
    refine Ev.bind hv ?_
    simp only [Int.toNat_natCast, set_mid, List.nil_append, w3, w4]
    exact ih
theorem heldC_loop : ∀ (ls : List Nat) (pre : List S46) (n : Nat), (∀ l ∈ ls, l ≤ 12) → pre.length + ls.length ≤ 1000000 → n + 40 * ls.length ≤ 100000000 →
    Ev (fun k => laws_heldCountedS.l0 k (pre ++ mCs ls n) (n : Int) (pre.length : Int)) (endC ls n : Int)
  | [], pre, n, h0, h1, h2 => Ev.step (fun k => rfl) (ev_if_neg (by simp [mCs]) (ev_some fun _ => rfl))
  | l :: ls, pre, n, h0, h1, h2 => by
    have hc := h0 l (by simp)
    rw [List.length_cons] at h1 h2
    have w3 : wrap64 (((n + 3 * l : Nat) : Int) + 1) = ((n + 3 * l + 1 : Nat) : Int) := wrap_add (b := 1) rfl (by omega)
    have w4 : wrap64 ((pre.length : Int) + 1) = ((pre.length + 1 : Nat) : Int) := wrap_add (b := 1) rfl (by omega)
    have g : rd_T46 (pre ++ mCs (l :: ls) n) (pre.length : Int) = ⟨mVs l n, ((n + 3 * l : Nat) : Int)⟩ := by unfold rd_T46; rw [Int.toNat_natCast]; exact getD_mid _ _ _ _
    have ih := heldC_loop ls (pre ++ [⟨mVs l n, ((n + 3 * l : Nat) : Int)⟩]) (n + 3 * l + 1) (fun y hy => h0 y (by simp [hy])) (by rw [List.length_append]; show pre.length + 1 + _ ≤ _; omega) (by omega)
    rw [List.append_assoc, List.singleton_append, List.length_append] at ih
    have hv := heldV_loop l [] n (by simp; omega) (by omega)
    refine Ev.step (fun k => rfl) (ev_if_pos (by rw [List.length_append]; show (pre.length : Int) < ((pre.length + ((mCs ls (n + 3 * l + 1)).length + 1) : Nat) : Int); omega) (ev_if_pos (by omega) ?_))
    rw [g]
    refine Ev.bind hv (ev_if_neg (by omega) (ev_if_pos rfl ?_))
    rw [w3, w4]
    exact ih
theorem endC_le : ∀ (ls : List Nat) (n : Nat), n ≤ endC ls n
  | [], n => Nat.le_refl _
  | l :: ls, n => Nat.le_trans (by omega) (endC_le ls (n + 3 * l + 1))
theorem marks_is (w : Int) (xs : List S46) (hn : xs.length ≤ 400) (hx : ∀ c ∈ xs, c.f0.length ≤ 12) :
    ∃ (e : Int) (ys : List S46), Ev (fun k => laws_markBag.f k w xs 1) (e, ys) ∧ Ev (fun k => laws_heldBag.f k w ys 1) e ∧ 0 ≤ e := by
  have h1 := markC_loop xs [] 1 hx (by simp; omega) (by omega)
  have h2 := heldC_loop (xs.map fun c => c.f0.length) [] 1 (fun l hl => by
    obtain ⟨c, hc, rfl⟩ := List.mem_map.1 hl
    exact hx c hc) (by simp; omega) (by simp; omega)
  exact ⟨_, _, h1, Ev.bind h2 (ev_if_neg (by omega) (ev_some fun _ => rfl)), by omega⟩
end Go.Proofs.Ytnibegacjmnhoaa.PFnExactGetBag
