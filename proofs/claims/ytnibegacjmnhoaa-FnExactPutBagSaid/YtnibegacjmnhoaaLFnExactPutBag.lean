/- Plain lemmas on what the functions of the law FnExactPutBag compute: numbers and lists alone. -/
import Derived.Test.YtnibegacjmnhoaaPFnExactPutBagx0
import Derived.Test.YtnibegacjmnhoaaPFnExactPutBagx1
import Derived.Test.YtnibegacjmnhoaaPFnExactPutBagx2
import Derived.Test.YtnibegacjmnhoaaPFnExactPutBagx3
import Derived.Test.YtnibegacjmnhoaaPFnExactPutBagx4
import Derived.Test.YtnibegacjmnhoaaPFnExactPutBagx5
import Derived.Test.YtnibegacjmnhoaaPFnExactPutBagx6
import Derived.Test.YtnibegacjmnhoaaPFnExactPutBagx7
import Derived.Test.YtnibegacjmnhoaaPFnExactPutBagx8
import Derived.Test.YtnibegacjmnhoaaPFnExactPutBagx9
import Derived.Test.YtnibegacjmnhoaaPFnExactPutBagx10
import Derived.Test.YtnibegacjmnhoaaOpen
import Derived.Test.YtnibegacjmnhoaaZFnExactPutBag
namespace Go.Proofs.Ytnibegacjmnhoaa.PFnExactPutBag
open Go.RowKit Go.Proofs.YtnibegacjmnhoaaW.PrintWords Go.Proofs.YtnibegacjmnhoaaW.PrintLast Go.Proofs.YtnibegacjmnhoaaW.PrintMore Go.Proofs.YtnibegacjmnhoaaOpen Go.Proofs.Ytnibegacjmnhoaa.ZFnExactPutBag
set_option linter.unusedVariables false
set_option linter.unusedSimpArgs false
/-- What is left of the bound behind a text. -/
theorem szValue_is (a b : Int) (s : ByteArray) (l : Int) (h0 : 0 ≤ l) (h1 : l ≤ 1048576) (hs : s.size ≤ 9223372036854775807) : laws_szValue.f a b s l = some (lft l s.size) := by
  unfold laws_szValue.f
  rw [wrap_id (x := l - (s.size : Int)) (by omega) (by omega)]
  by_cases h : l - (s.size : Int) < 0
  · rw [if_pos h, lft_of_gt (by omega)]
  · rw [if_neg h, lft_of_le (by omega)]
theorem cmpBytes_is (l m : List UInt8) : Go.Lib.compareBytes l m = if Op.bytesLess l m = true then -1 else if (Op.bytesLess l m || l == m) = true then 0 else 1 := by
  induction l generalizing m with
  | nil => cases m <;> simp [Go.Lib.compareBytes, Op.bytesLess]
  | cons a l ih =>
    cases m with
    | nil => simp [Go.Lib.compareBytes, Op.bytesLess]
    | cons b m =>
      simp only [Go.Lib.compareBytes, Op.bytesLess]
      by_cases h : a < b
      · simp [h]
      · by_cases h' : b < a
        · have hne : ¬ a = b := by rintro rfl; exact absurd h' h
          simp [h, h', hne]
        · have e : a = b := by
            apply UInt8.toNat_inj.1
            have h1 : ¬ a.toNat < b.toNat := h
            have h2 : ¬ b.toNat < a.toNat := h'
            omega
          subst e
          simp only [h, if_false, ih]
          simp
def cmpI (a b : Int) : Int := if a < b then -1 else if b < a then 1 else 0
theorem compare_int_is (a b : Int) : cmp_Compare_int.f a b = some (cmpI a b) := by
  unfold cmp_Compare_int.f cmp_isNaN_int.f cmpI
  simp only [Option.bind_some, bne_self_eq_false, Bool.false_eq_true, if_false, gt_iff_lt]
  by_cases h : a < b
  · simp [h]
  · by_cases h' : b < a <;> simp [h, h']
theorem or_three (k : Nat) (a b c : Int) : cmp_Or_int.f (k + 4) [a, b, c] = some (if a = 0 then (if b = 0 then c else b) else a) := by
  have w0 : wrap64 (0 + 1) = 1 := by unfold wrap64; omega
  have w1 : wrap64 (1 + 1) = 2 := by unfold wrap64; omega
  have w2 : wrap64 (2 + 1) = 3 := by unfold wrap64; omega
  unfold cmp_Or_int.f
  simp only [cmp_Or_int.l0, List.length_cons, List.length_nil, w0, w1, w2, rd]
  by_cases ha : a = 0
  · by_cases hb : b = 0
    · by_cases hc : c = 0
      · simp [ha, hb, hc]
      · simp [ha, hb, hc]
    · simp [ha, hb]
  · simp [ha]
theorem compareValue_is (k : Nat) (a b : Int) (s : ByteArray) (a' b' : Int) (s' : ByteArray) : impl_CompareValue.f (k + 4) a b s a' b' s' = some (cmpV a b s a' b' s') := by
  unfold impl_CompareValue.f strings_Compare.f bytealg_CompareString.f
  simp only [compare_int_is, Option.bind_some, or_three, cmpBytes_is]
  unfold cmpV cmpI
  have hd : ∀ z : ByteArray, z.toList = z.data.toList := fun z => ByteArray.toList_eq z
  rw [hd, hd]
  by_cases h1 : a < a'
  · simp [h1]
  · by_cases h2 : a' < a
    · simp [h1, h2]
    · by_cases h3 : b < b'
      · simp [h1, h2, h3]
      · by_cases h4 : b' < b
        · simp [h1, h2, h3, h4]
        · simp [h1, h2, h3, h4]
def wtV (x : S91) : Nat := x.f2.size
def wtVS (l : List S91) : Nat := l.length + (l.map wtV).sum
theorem szValueS_is (xs : List S91) (hn : xs.length ≤ 9223372036854775807) (hx : ∀ x ∈ xs, x.f2.size ≤ 9223372036854775807) (l : Int) (h0 : 0 ≤ l) (h1 : l ≤ 1048576) : Ev (fun k => laws_szValueS.f k xs l) (lft l (wtVS xs)) :=
  sz_list z91 laws_szValueS.f laws_szValueS.l0 (fun _ x l => laws_szValue.f x.f0 x.f1 x.f2 l) wtV (fun _ _ _ => rfl) (fun _ _ _ _ => rfl) xs hn (fun x hx' l h0 h1 => ev_some fun _ => szValue_is _ _ _ l h0 h1 (hx x hx')) l h0 h1
def toV (x : S91) : S42 := ⟨x.f0, x.f1, x.f2⟩
theorem toValueS_is (xs : List S91) (hn : xs.length ≤ 8796093022208) : Ev (fun k => laws_toValueS.f k xs) (xs.map toV) :=
  map_list z91 z42 laws_toValueS.f laws_toValueS.l0 (fun _ x => laws_toValue.f x.f0 x.f1 x.f2) (fun bt => (⟨bt.1, bt.2.1, bt.2.2⟩ : S42)) (fun x => (x.f0, x.f1, x.f2)) 8796093022208 (fun _ _ => rfl) (fun _ _ _ _ => rfl) xs hn (by omega) (fun x _ => ev_some fun _ => rfl)
theorem eqValue_refl (a b : Int) (s : ByteArray) : laws_eqValue.f a b s a b s = some true := by simp [laws_eqValue.f]
theorem eqValueS_refl (xs : List S42) (hn : xs.length ≤ 9223372036854775807) : Ev (fun k => laws_eqValueS.f k xs xs) true :=
  eq_list z42 laws_eqValueS.f laws_eqValueS.l0 (fun _ x y => laws_eqValue.f x.f0 x.f1 x.f2 y.f0 y.f1 y.f2) (fun _ _ _ => rfl) (fun _ _ _ _ => rfl) xs hn (fun x _ => ev_some fun _ => eqValue_refl _ _ _)
def wtC (x : S69) : Nat := wtVS x.f0
def wtCS (l : List S69) : Nat := l.length + (l.map wtC).sum
def okC (x : S69) : Prop := x.f0.length ≤ 9223372036854775807 ∧ ∀ y ∈ x.f0, y.f2.size ≤ 9223372036854775807
theorem szCounted_is (a : List S91) (n : Int) (hn : a.length ≤ 9223372036854775807) (hx : ∀ x ∈ a, x.f2.size ≤ 9223372036854775807) (l : Int) (h0 : 0 ≤ l) (h1 : l ≤ 1048576) : Ev (fun k => laws_szCounted.f k a n l) (lft l (wtVS a)) := by
  refine Ev.congr (fun k => rfl) (Ev.bind (szValueS_is a hn hx l h0 h1) (f := fun k t => if t < 0 then some (-1) else some t) ?_)
  by_cases h : (wtVS a : Int) ≤ l
  · exact ev_if_neg (by rw [lft_of_le h]; omega) (ev_some fun _ => rfl)
  · rw [lft_of_gt h]
    exact ev_if_pos (by omega) (ev_some fun _ => rfl)
theorem szCountedS_is (xs : List S69) (hn : xs.length ≤ 9223372036854775807) (hx : ∀ x ∈ xs, okC x) (l : Int) (h0 : 0 ≤ l) (h1 : l ≤ 1048576) : Ev (fun k => laws_szCountedS.f k xs l) (lft l (wtCS xs)) :=
  sz_list z69 laws_szCountedS.f laws_szCountedS.l0 (fun k x l => laws_szCounted.f k x.f0 x.f1 l) wtC (fun _ _ _ => rfl) (fun _ _ _ _ => rfl) xs hn (fun x hx' l h0 h1 => szCounted_is _ _ (hx x hx').1 (hx x hx').2 l h0 h1) l h0 h1
theorem szBag_is (w : Int) (xs : List S69) (hn : xs.length ≤ 9223372036854775807) (hx : ∀ x ∈ xs, okC x) (l : Int) (h0 : 0 ≤ l) (h1 : l ≤ 1048576) : Ev (fun k => laws_szBag.f k w xs l) (lft l (wtCS xs)) := by
  refine Ev.congr (fun k => rfl) (Ev.bind (szCountedS_is xs hn hx l h0 h1) (f := fun k t => if t < 0 then some (-1) else some t) ?_)
  by_cases h : (wtCS xs : Int) ≤ l
  · exact ev_if_neg (by rw [lft_of_le h]; omega) (ev_some fun _ => rfl)
  · rw [lft_of_gt h]
    exact ev_if_pos (by omega) (ev_some fun _ => rfl)
theorem sum_le_of_mem {α : Type} (f : α → Nat) {l : List α} {x : α} (h : x ∈ l) : f x ≤ (l.map f).sum := by
  induction l with
  | nil => cases h
  | cons a l ih =>
    rw [List.map_cons, List.sum_cons]
    rcases List.mem_cons.1 h with rfl | h
    · omega
    · have := ih h
      omega
def toC (x : S69) : S46 := ⟨x.f0.map toV, x.f1⟩
theorem toCounted_is (a : List S91) (n : Int) (hn : a.length ≤ 8796093022208) : Ev (fun k => laws_toCounted.f k a n) (a.map toV, n) :=
  Ev.bind (toValueS_is a hn) (f := fun k t => some (t, n)) (ev_some fun _ => rfl)
theorem toCountedS_is (xs : List S69) (hn : xs.length ≤ 8796093022208) (hx : ∀ x ∈ xs, x.f0.length ≤ 8796093022208) : Ev (fun k => laws_toCountedS.f k xs) (xs.map toC) :=
  map_list z69 z46 laws_toCountedS.f laws_toCountedS.l0 (fun k x => laws_toCounted.f k x.f0 x.f1) (fun bt => (⟨bt.1, bt.2⟩ : S46)) (fun x => (x.f0.map toV, x.f1)) 8796093022208 (fun _ _ => rfl) (fun _ _ _ _ => rfl) xs hn (by omega) (fun x h => toCounted_is _ _ (hx x h))
theorem toBag_is (w : Int) (xs : List S69) (hn : xs.length ≤ 8796093022208) (hx : ∀ x ∈ xs, x.f0.length ≤ 8796093022208) : Ev (fun k => laws_toBag.f k w xs) (w, xs.map toC) :=
  Ev.bind (toCountedS_is xs hn hx) (f := fun k t => some (w, t)) (ev_some fun _ => rfl)
theorem eqCounted_refl (a : List S42) (n : Int) (hn : a.length ≤ 9223372036854775807) : Ev (fun k => laws_eqCounted.f k a n a n) true := by
  refine Ev.congr (fun k => rfl) (Ev.bind (eqValueS_refl a hn) (f := fun k t => if t = true then (if n = n then some true else some false) else some false) ?_)
  exact ev_some fun _ => by simp
theorem eqCountedS_refl (xs : List S46) (hn : xs.length ≤ 9223372036854775807) (hx : ∀ x ∈ xs, x.f0.length ≤ 9223372036854775807) : Ev (fun k => laws_eqCountedS.f k xs xs) true :=
  eq_list z46 laws_eqCountedS.f laws_eqCountedS.l0 (fun k x y => laws_eqCounted.f k x.f0 x.f1 y.f0 y.f1) (fun _ _ _ => rfl) (fun _ _ _ _ => rfl) xs hn (fun x h => eqCounted_refl _ _ (hx x h))
theorem eqBag_refl (w : Int) (xs : List S46) (hn : xs.length ≤ 9223372036854775807) (hx : ∀ x ∈ xs, x.f0.length ≤ 9223372036854775807) : Ev (fun k => laws_eqBag.f k w xs w xs) true := by
  refine Ev.congr (fun k => if_pos rfl) (Ev.bind (eqCountedS_refl xs hn hx) (f := fun k t => if t = true then some true else some false) ?_)
  exact ev_some fun _ => by simp
/-- What the bound tells of a bag. -/
theorem bag_bounds {xs : List S69} {l : Int} (h : (wtCS xs : Int) ≤ l) (hl : l ≤ 1048576) : xs.length ≤ 1048576 ∧ ∀ x ∈ xs, x.f0.length ≤ 1048576 := by
  unfold wtCS at h
  refine ⟨by omega, fun x hx => ?_⟩
  have h1 := sum_le_of_mem wtC hx
  have h2 : x.f0.length ≤ wtC x := by unfold wtC wtVS; omega
  omega
theorem toC_len {xs : List S69} {n : Nat} (h : ∀ x ∈ xs, x.f0.length ≤ n) : ∀ x ∈ xs.map toC, x.f0.length ≤ n := by
  intro y hy
  obtain ⟨x, hx, rfl⟩ := List.mem_map.1 hy
  simpa [toC] using h x hx
/-- Is a value right. -/
def okV (a b : Int) (s : List UInt8) : Bool := if a = 0 then (b == 0 && s.isEmpty) else if a = 1 then s.isEmpty else if a = 2 then (decide (0 ≤ b ∧ b ≤ 1) && s.isEmpty) else if a = 3 then (b == 0 && decide (s.length ≤ 100)) else false
theorem specValueOk_is (a b : Int) (s : ByteArray) : spec_ValueOk.f a b s = some (okV a b s.data.toList) := by
  unfold spec_ValueOk.f okV spec_l01In.f
  have he : (s.toList == ([] : List UInt8)) = s.data.toList.isEmpty := by rw [toList_data]; cases s.data.toList <;> rfl
  rw [he, size_data]
  by_cases h0 : a = 0
  · by_cases hb : b = 0 <;> simp [h0, hb]
  · by_cases h1 : a = 1
    · simp [h1]
    · by_cases h2 : a = 2
      · by_cases hb : 0 ≤ b
        · by_cases hb' : b ≤ 1 <;> simp [h2, hb, hb']
        · simp [h2, hb]
      · by_cases h3 : a = 3
        · by_cases hb : b = 0
          · simp [h3, hb]
            omega
          · simp [h3, hb]
        · simp [h0, h1, h2, h3]
theorem implValueOk_is (a b : Int) (s : ByteArray) : impl_ValueOk.f a b s = some (okV a b s.data.toList) := specValueOk_is a b s
/-- The eight bytes of a number. -/
def be8 (n : Int) : List UInt8 := [u8 (n / 72057594037927936 % 256), u8 (n / 281474976710656 % 256), u8 (n / 1099511627776 % 256), u8 (n / 4294967296 % 256), u8 (n / 16777216 % 256), u8 (n / 65536 % 256), u8 (n / 256 % 256), u8 (n % 256)]
/-- The bytes of a value. -/
def encV (a b : Int) (s : List UInt8) : List UInt8 := if okV a b s = true then (if a = 1 then 1 :: be8 b else if a = 2 then [2, u8 b] else if a = 3 then 3 :: u8 (s.length : Int) :: s else [0]) else []
theorem specPutLoop_is (b : Int) (s : ByteArray) (hs : s.size ≤ 1048576) (a : Int) (ys : List Int) (hy : ys.length ≤ 10) : Ev (fun k => spec_PutValue.l0 k ys (IntKind.u64.wrap b) 72057594037927936 0 a b s) (mkB (ys.map u8 ++ be8 b) ++ s) := by
  have hu : IntKind.u64.wrap b = b % 18446744073709551616 := by simp [IntKind.wrap, IntKind.bits, IntKind.signed]
  rw [hu]
  obtain ⟨u, hu⟩ : ∃ u, u = b % 18446744073709551616 := ⟨_, rfl⟩
  rw [← hu]
  have hu0 : 0 ≤ u := by omega
  have hu1 : u < 18446744073709551616 := by omega
  have step : ∀ (zs : List Int) (w w' : Int) (i : Nat) (r : ByteArray), zs.length ≤ 20 → i < 8 → 0 < w → w < 18446744073709551616 → w' = w / 256 → Ev (fun k => spec_PutValue.l0 k (zs ++ [u / w % 256]) u w' ((i + 1 : Nat) : Int) a b s) r → Ev (fun k => spec_PutValue.l0 k zs u w (i : Int) a b s) r := by
    intro zs w w' i r hz hi hw hw2 hw' h
    refine Ev.step (fun k => rfl) (ev_if_pos (by omega) (ev_if_neg (by omega) (ev_if_pos (by omega) ?_)))
    have e1 : IntKind.u64.wrap (Int.tdiv u w) = u / w := by
      rw [Int.tdiv_eq_ediv_of_nonneg hu0]
      have h1 : 0 ≤ u / w := Int.ediv_nonneg hu0 (by omega)
      have h2 : u / w ≤ u := Int.ediv_le_self _ hu0
      simp only [IntKind.wrap, IntKind.bits, IntKind.signed]
      simp
      omega
    have e2 : IntKind.u64.wrap (Int.tdiv w 256) = w' := by
      rw [Int.tdiv_eq_ediv_of_nonneg (by omega), hw']
      simp only [IntKind.wrap, IntKind.bits, IntKind.signed]
      simp
      omega
    have e3 : Int.tmod (u / w) 256 % 256 = u / w % 256 := by
      rw [Int.tmod_eq_emod_of_nonneg (Int.ediv_nonneg hu0 (by omega))]
      omega
    have e4 : wrap64 ((i : Int) + 1) = ((i + 1 : Nat) : Int) := wrap_succ hi (by omega)
    rw [e1, e2, e3, e4]
    exact h
  refine step _ _ 281474976710656 0 _ (by omega) (by omega) (by omega) (by omega) (by omega) ?_
  refine step _ _ 1099511627776 1 _ (by simp; omega) (by omega) (by omega) (by omega) (by omega) ?_
  refine step _ _ 4294967296 2 _ (by simp; omega) (by omega) (by omega) (by omega) (by omega) ?_
  refine step _ _ 16777216 3 _ (by simp; omega) (by omega) (by omega) (by omega) (by omega) ?_
  refine step _ _ 65536 4 _ (by simp; omega) (by omega) (by omega) (by omega) (by omega) ?_
  refine step _ _ 256 5 _ (by simp; omega) (by omega) (by omega) (by omega) (by omega) ?_
  refine step _ _ 1 6 _ (by simp; omega) (by omega) (by omega) (by omega) (by omega) ?_
  refine step _ _ 0 7 _ (by simp; omega) (by omega) (by omega) (by omega) (by omega) ?_
  refine Ev.step (fun k => rfl) (ev_if_neg (by omega) (ev_if_pos ?_ (ev_conv (ev_some fun _ => rfl) ?_)))
  · rw [strOfNums_size]
    simp
    omega
  · rw [strOfNums_mk]
    congr 2
    simp only [List.map_append, List.map_cons, List.map_nil, List.append_assoc, List.cons_append, List.nil_append, be8]
    congr 1
    have g : ∀ x y : Int, x = y → u8 x = u8 y := fun x y h => by rw [h]
    simp only [List.cons.injEq, and_true]
    refine ⟨g _ _ (by omega), g _ _ (by omega), g _ _ (by omega), g _ _ (by omega), g _ _ (by omega), g _ _ (by omega), g _ _ (by omega), g _ _ (by omega)⟩
theorem specPutValue_is (a b : Int) (s : ByteArray) (hs : s.size ≤ 1048576) : Ev (fun k => spec_PutValue.f k a b s) (mkB (encV a b s.data.toList)) := by
  refine Ev.congr (fun k => rfl) (ev_bind0 (specValueOk_is a b s) ?_)
  unfold encV
  cases hk : okV a b s.data.toList with
  | false => exact ev_if_neg (by simp) (ev_conv (ev_some fun _ => rfl) rfl)
  | true =>
    refine ev_if_pos rfl (ev_bind0 rfl ?_)
    simp only [if_true]
    by_cases h1 : a = 1
    · subst h1
      have hs0 : s.data.toList = [] := by simpa [okV] using hk
      refine ev_if_pos rfl (ev_conv (specPutLoop_is b s hs 1 _ (by simp)) ?_)
      rw [← mkB_of s, hs0, mkB_append]
      rfl
    · refine ev_if_neg h1 ?_
      rw [if_neg h1]
      by_cases h2 : a = 2
      · subst h2
        have hs0 : s.data.toList = [] := by have := hk; simp [okV] at this; simpa using this.2
        have hb : 0 ≤ b ∧ b ≤ 1 := by have := hk; simp [okV] at this; exact this.1
        refine ev_if_pos rfl (ev_if_pos (by simp) (ev_bind0 rfl (ev_if_pos (by rw [strOfNums_size]; simp; omega) (ev_conv (ev_some fun _ => rfl) ?_))))
        rw [if_pos rfl, strOfNums_mk, ← mkB_of s, hs0, mkB_append]
        have e : b % 256 = b := by omega
        rw [e]
        rfl
      · refine ev_if_neg h2 ?_
        rw [if_neg h2]
        by_cases h3 : a = 3
        · subst h3
          have hl : s.data.toList.length ≤ 100 := by have := hk; simp [okV] at this; simpa using this.2
          refine ev_if_pos rfl (ev_if_pos (by simp) (ev_bind0 rfl (ev_if_pos (by rw [strOfNums_size]; simp; omega) (ev_conv (ev_some fun _ => rfl) ?_))))
          rw [if_pos rfl, strOfNums_mk]
          have e : ((s.size : Int)) % 256 = (s.data.toList.length : Int) := by rw [size_data]; omega
          rw [e]
          conv => lhs; rw [← mkB_of s]
          rw [mkB_append]
          rfl
        · refine ev_if_neg h3 (ev_if_pos (by rw [strOfNums_size]; simp; omega) (ev_conv (ev_some fun _ => rfl) ?_))
          rw [if_neg h3]
          have h0 : a = 0 := by
            by_cases h0 : a = 0
            · exact h0
            · simp [okV, h0, h1, h2, h3] at hk
          have hs0 : s.data.toList = [] := by have := hk; simp [okV, h0] at this; simpa using this.2
          rw [strOfNums_mk, ← mkB_of s, hs0, mkB_append, h0]
          rfl
theorem big_round (n m : Int) (xs : List Int) (hm : m = (xs.length : Int)) (hl : xs.length ≤ 8) (i : Nat) (hi : i < xs.length) {r : ByteArray} (h : Ev (fun k => impl_big.l0 k n m (xs.set (xs.length - 1 - i) ((n / 2 ^ (8 * i)) % 256)) (xs.length : Int) ((i + 1 : Nat) : Int)) r) : Ev (fun k => impl_big.l0 k n m xs (xs.length : Int) (i : Int)) r := by
  have e1 : wrap64 (8 * (i : Int)) = ((8 * i : Nat) : Int) := by rw [wrap_id (by omega) (by omega)]; omega
  have e2 : wrap64 (wrap64 (m - 1) - (i : Int)) = ((xs.length - 1 - i : Nat) : Int) := by rw [wrap_id (x := m - 1) (by omega) (by omega), wrap_id (by omega) (by omega)]; omega
  have e3 : shr .i64 n ((8 * i : Nat) : Int) = n / 2 ^ (8 * i) := by unfold shr; rw [Int.toNat_natCast, Nat.min_eq_left (by show 8 * i ≤ 64; omega)]
  have e4 : wrap64 ((i : Int) + 1) = ((i + 1 : Nat) : Int) := wrap_succ hi (by omega)
  refine Ev.step (fun k => rfl) (ev_if_pos (by omega) ?_)
  rw [e1, e2]
  refine ev_if_pos (by omega) (ev_if_pos (by omega) (ev_if_pos (by omega) ?_))
  rw [e3, e4, Int.toNat_natCast]
  exact h
theorem big_end (n m : Int) (xs : List Int) : Ev (fun k => impl_big.l0 k n m xs (xs.length : Int) (xs.length : Int)) (strOfNums xs) :=
  Ev.step (fun k => rfl) (ev_if_neg (by omega) (ev_some fun _ => rfl))
theorem big1_is (n : Int) : Ev (fun k => impl_big.f k n 1) (mkB [u8 (n % 256)]) := by
  have c : Ev (fun k => impl_big.l0 k n 1 [0] (([0] : List Int).length : Int) ((0 : Nat) : Int)) (mkB [u8 (n % 256)]) := by
    refine big_round n 1 [0] (by simp) (by simp) 0 (by simp) ?_
    have e := big_end n 1 (([0] : List Int).set (([0] : List Int).length - 1 - 0) ((n / 2 ^ (8 * 0)) % 256))
    rw [strOfNums_mk] at e
    simpa using e
  refine Ev.congr (fun k => ?_) c
  unfold impl_big.f
  rw [if_pos (by omega), if_pos (by omega)]
  rfl
theorem big8_is (n : Int) : Ev (fun k => impl_big.f k n 8) (mkB [u8 (n / 72057594037927936 % 256), u8 (n / 281474976710656 % 256), u8 (n / 1099511627776 % 256), u8 (n / 4294967296 % 256), u8 (n / 16777216 % 256), u8 (n / 65536 % 256), u8 (n / 256 % 256), u8 (n % 256)]) := by
  have c : ∀ l : List Int, l = [0, 0, 0, 0, 0, 0, 0, 0] → Ev (fun k => impl_big.l0 k n 8 l (l.length : Int) ((0 : Nat) : Int)) (mkB [u8 (n / 72057594037927936 % 256), u8 (n / 281474976710656 % 256), u8 (n / 1099511627776 % 256), u8 (n / 4294967296 % 256), u8 (n / 16777216 % 256), u8 (n / 65536 % 256), u8 (n / 256 % 256), u8 (n % 256)]) := by
    have rd : ∀ (xs ys : List Int) (i j : Nat) (r : ByteArray), xs.length = 8 → i < 8 → j = i + 1 → ys = xs.set (7 - i) ((n / 2 ^ (8 * i)) % 256) → Ev (fun k => impl_big.l0 k n 8 ys (ys.length : Int) (j : Int)) r → Ev (fun k => impl_big.l0 k n 8 xs (xs.length : Int) (i : Int)) r := by
      intro xs ys i j r hl hi hj hy h
      subst hj hy
      refine big_round n 8 xs (by rw [hl]; rfl) (by omega) i (by omega) ?_
      rw [List.length_set] at h
      rw [hl] at h ⊢
      exact h
    intro l hl
    subst hl
    refine rd _ [0, 0, 0, 0, 0, 0, 0, n % 256] 0 1 _ rfl (by omega) rfl (by simp) ?_
    refine rd _ [0, 0, 0, 0, 0, 0, n / 256 % 256, n % 256] 1 2 _ rfl (by omega) rfl (by simp) ?_
    refine rd _ [0, 0, 0, 0, 0, n / 65536 % 256, n / 256 % 256, n % 256] 2 3 _ rfl (by omega) rfl (by simp) ?_
    refine rd _ [0, 0, 0, 0, n / 16777216 % 256, n / 65536 % 256, n / 256 % 256, n % 256] 3 4 _ rfl (by omega) rfl (by simp) ?_
    refine rd _ [0, 0, 0, n / 4294967296 % 256, n / 16777216 % 256, n / 65536 % 256, n / 256 % 256, n % 256] 4 5 _ rfl (by omega) rfl (by simp) ?_
    refine rd _ [0, 0, n / 1099511627776 % 256, n / 4294967296 % 256, n / 16777216 % 256, n / 65536 % 256, n / 256 % 256, n % 256] 5 6 _ rfl (by omega) rfl (by simp) ?_
    refine rd _ [0, n / 281474976710656 % 256, n / 1099511627776 % 256, n / 4294967296 % 256, n / 16777216 % 256, n / 65536 % 256, n / 256 % 256, n % 256] 6 7 _ rfl (by omega) rfl (by simp) ?_
    refine rd _ [n / 72057594037927936 % 256, n / 281474976710656 % 256, n / 1099511627776 % 256, n / 4294967296 % 256, n / 16777216 % 256, n / 65536 % 256, n / 256 % 256, n % 256] 7 8 _ rfl (by omega) rfl (by simp) ?_
    exact big_end n 8 _
  refine Ev.congr (fun k => ?_) (c (List.replicate 8 0) rfl)
  unfold impl_big.f
  rw [if_pos (by omega), if_pos (by omega)]
  rfl
theorem implPutValue_is (a b : Int) (s : ByteArray) (hs : s.size ≤ 1048576) : Ev (fun k => impl_PutValue.f k a b s) (mkB (encV a b s.data.toList)) := by
  refine Ev.congr (fun k => rfl) (ev_bind0 (implValueOk_is a b s) ?_)
  unfold encV
  cases hk : okV a b s.data.toList with
  | false => exact ev_if_neg (by simp) (ev_conv (ev_some fun _ => rfl) rfl)
  | true =>
    refine ev_if_pos rfl (Ev.bind (big1_is a) ?_)
    simp only [if_true]
    by_cases h1 : a = 1
    · subst h1
      refine ev_if_pos rfl (Ev.bind (big8_is b) (ev_if_pos (by simp [mkB_size]) (ev_conv (ev_some fun _ => rfl) ?_)))
      rw [mkB_append]
      rfl
    · refine ev_if_neg h1 ?_
      rw [if_neg h1]
      by_cases h2 : a = 2
      · subst h2
        have hb : 0 ≤ b ∧ b ≤ 1 := by have := hk; simp [okV] at this; exact this.1
        refine ev_if_pos rfl (Ev.bind (big1_is b) (ev_if_pos (by simp [mkB_size]) (ev_conv (ev_some fun _ => rfl) ?_)))
        have e : b % 256 = b := by omega
        rw [if_pos rfl, mkB_append, e]
        rfl
      · refine ev_if_neg h2 ?_
        rw [if_neg h2]
        by_cases h3 : a = 3
        · subst h3
          have hl : s.data.toList.length ≤ 100 := by have := hk; simp [okV] at this; simpa using this.2
          refine ev_if_pos rfl (Ev.bind (big1_is (s.size : Int)) (ev_if_pos (by simp [mkB_size]) (ev_if_pos (by simp [mkB_size, mkB_append]; omega) (ev_conv (ev_some fun _ => rfl) ?_))))
          have e : ((s.size : Int)) % 256 = (s.data.toList.length : Int) := by rw [size_data]; omega
          rw [if_pos rfl, e]
          conv => lhs; rw [← mkB_of s]
          rw [mkB_append, mkB_append]
          rfl
        · refine ev_if_neg h3 (ev_conv (ev_some fun _ => rfl) ?_)
          have h0 : a = 0 := by
            by_cases h0 : a = 0
            · exact h0
            · simp [okV, h0, h1, h2, h3] at hk
          rw [if_neg h3, h0]
          rfl
def cmpW (x y : S42) : Int := cmpV x.f0 x.f1 x.f2 y.f0 y.f1 y.f2
/-- The order of rows. -/
def cmpRow : List S42 → List S42 → Int
  | [], [] => 0
  | [], _ :: _ => -1
  | _ :: _, [] => 1
  | x :: xs, y :: ys => if cmpW x y = 0 then cmpRow xs ys else cmpW x y
theorem specCompareRow_tail (xs ys : List S42) (i : Nat) (h : i = xs.length ∨ i = ys.length) (h0 : i ≤ xs.length) (h1 : i ≤ ys.length) :
    (if (xs.length : Int) < (ys.length : Int) then (some (-1)) else (if (xs.length : Int) > (ys.length : Int) then (some 1) else (some 0))) = some (cmpRow (xs.drop i) (ys.drop i)) := by
  by_cases hx : i < xs.length
  · have hy : i = ys.length := by omega
    rw [if_neg (by omega), if_pos (by omega), drop_cons_getD z42 hx, show ys.drop i = [] from List.drop_eq_nil_of_le (by omega), cmpRow]
  · by_cases hy : i < ys.length
    · rw [if_pos (by omega), drop_cons_getD z42 hy, show xs.drop i = [] from List.drop_eq_nil_of_le (by omega), cmpRow]
    · rw [if_neg (by omega), if_neg (by omega), show xs.drop i = [] from List.drop_eq_nil_of_le (by omega), show ys.drop i = [] from List.drop_eq_nil_of_le (by omega), cmpRow]
theorem specCompareRow_loop (xs ys : List S42) (hn : xs.length ≤ 9223372036854775807) : ∀ (n i : Nat), xs.length - i = n → i ≤ xs.length → i ≤ ys.length → Ev (fun k => spec_CompareRow.l0 k xs ys i) (cmpRow (xs.drop i) (ys.drop i)) := by
  intro n
  induction n with
  | zero =>
    intro i h1 h2 h3
    refine Ev.step (fun k => rfl) (ev_if_neg (by omega) (Ev.step (fun k => rfl) (ev_some fun _ => specCompareRow_tail xs ys i (.inl (by omega)) h2 h3)))
  | succ n ih =>
    intro i h1 h2 h3
    have hi : i < xs.length := by omega
    refine Ev.step (fun k => rfl) (ev_if_pos (by omega) (Ev.step (fun k => rfl) ?_))
    by_cases hy : i < ys.length
    · refine ev_if_pos (decide_eq_true (by omega)) (ev_if_pos (by omega) (ev_if_pos (by omega) (ev_if_pos (by omega) ?_)))
      refine ev_bind0 (a := cmpW (xs.getD i z42) (ys.getD i z42)) (by rw [← Int.toNat_natCast i]; rfl) ?_
      rw [wrap_succ hi hn, drop_cons_getD z42 hi, drop_cons_getD z42 hy, cmpRow]
      by_cases hc : cmpW (xs.getD i z42) (ys.getD i z42) = 0
      · rw [if_pos hc]
        exact ev_if_pos hc (ih (i + 1) (by omega) (by omega) (by omega))
      · rw [if_neg hc]
        exact ev_if_neg hc (ev_some fun _ => rfl)
    · exact ev_if_neg (by simpa using hy) (ev_some fun _ => specCompareRow_tail xs ys i (.inr (by omega)) h2 h3)
theorem specCompareRow_is (xs ys : List S42) (hn : xs.length ≤ 9223372036854775807) : Ev (fun k => spec_CompareRow.f k xs ys) (cmpRow xs ys) := specCompareRow_loop xs ys hn xs.length 0 rfl (Nat.zero_le _) (Nat.zero_le _)
theorem implCompareRow_is4 (k : Nat) : ∀ xs ys, impl_CompareRow.f (k + 4) xs ys = some (cmpRow xs ys)
  | [], [] => rfl
  | [], _ :: _ => rfl
  | _ :: _, [] => rfl
  | x :: xs, y :: ys => by
    have ih := implCompareRow_is4 k xs ys
    unfold impl_CompareRow.f at ih ⊢
    rw [cmpO, compareValue_is, Option.bind_some, cmpRow, ih]
    show (if cmpW x y = 0 then _ else some (cmpW x y)) = _
    by_cases hc : cmpW x y = 0 <;> simp [hc]
theorem implCompareRow_is (xs ys : List S42) : Ev (fun k => impl_CompareRow.f k xs ys) (cmpRow xs ys) := ⟨4, fun k hk => by
  obtain ⟨m, rfl⟩ : ∃ m, k = m + 4 := ⟨k - 4, by omega⟩
  exact implCompareRow_is4 m xs ys⟩
/-- A row of values, so many. -/
def RowP (xs : List S42) (w : Int) : Prop := (∀ x ∈ xs, okV x.f0 x.f1 x.f2.data.toList = true) ∧ (xs.length : Int) = w
theorem l01In_is (a b c : Int) : spec_l01In.f a b c = some (decide (b ≤ a ∧ a ≤ c)) := by
  unfold spec_l01In.f
  by_cases h : a ≥ b
  · rw [if_pos h]
    by_cases h' : a ≤ c <;> simp [h', show b ≤ a from h]
  · rw [if_neg h, decide_eq_false (by omega)]
theorem spec_row_is (xs : List S42) (w : Int) (hn : xs.length ≤ 9223372036854775807) (r : Bool) (hr : r = true ↔ RowP xs w) : Ev (fun k => spec_l02Row.f k xs w) r := by
  refine all_loop xs.length (fun k i => spec_l02Row.l0 k xs w i) (fun j => okV (xs.getD j z42).f0 (xs.getD j z42).f1 (xs.getD j z42).f2.data.toList = true) ((xs.length : Int) = w) ?_ ?_ r (hr.trans ?_)
  · intro r hr
    refine Ev.step (fun k => rfl) (ev_if_neg (by omega) (ev_some fun _ => ?_))
    congr 1
    rw [Bool.eq_iff_iff, hr, beq_iff_eq]
  · intro i hi r next no
    refine Ev.step (fun k => rfl) (ev_if_pos (by omega) (ev_if_pos (by omega) (ev_bind0 (specValueOk_is _ _ _) ?_)))
    rw [wrap_succ hi hn]
    by_cases h : okV (xs.getD i z42).f0 (xs.getD i z42).f1 (xs.getD i z42).f2.data.toList = true
    · exact ev_if_pos h (next h)
    · exact ev_if_neg h (ev_conv (ev_some fun _ => rfl) (no h).symm)
  · unfold RowP
    rw [forall_getD z42 (p := fun x => okV x.f0 x.f1 x.f2.data.toList = true)]
theorem allO_eq {α : Type} {f : α → Option Bool} {g : α → Bool} : ∀ {xs : List α}, (∀ x ∈ xs, f x = some (g x)) → allO f xs = some (xs.all g)
  | [], _ => rfl
  | x :: xs, h => by
    rw [allO, h x (List.mem_cons_self ..), Option.bind_some, List.all_cons]
    cases g x with
    | false => rfl
    | true => rw [if_pos rfl, allO_eq fun y hy => h y (List.mem_cons_of_mem _ hy), Bool.true_and]
theorem allO_ev {α : Type} {f : Nat → α → Option Bool} {g : α → Bool} : ∀ {xs : List α}, (∀ x ∈ xs, Ev (fun k => f k x) (g x)) → Ev (fun k => allO (f k) xs) (xs.all g)
  | [], _ => ev_some fun _ => rfl
  | x :: xs, h => by
    refine Ev.bind (h x (List.mem_cons_self ..)) (f := fun k b => if b = true then allO (f k) xs else some false) ?_
    rw [List.all_cons]
    cases hg : g x with
    | false => exact ev_if_neg (by simp) (ev_some fun _ => rfl)
    | true => exact ev_if_pos rfl (ev_conv (allO_ev fun y hy => h y (List.mem_cons_of_mem _ hy)) (Bool.true_and _).symm)
theorem within_is (a b c : Int) : impl_within.f a b c = some (decide (b ≤ a ∧ a ≤ c)) := by
  unfold impl_within.f
  by_cases h : b ≤ a
  · rw [if_pos h]
    by_cases h' : a ≤ c <;> simp [h', h]
  · rw [if_neg h, decide_eq_false (by omega)]
theorem impl_row_is (xs : List S42) (w : Int) (r : Bool) (hr : r = true ↔ RowP xs w) : impl_isRow.f xs w = some r := by
  unfold impl_isRow.f
  by_cases h : (xs.length : Int) = w
  · rw [if_pos h, allO_eq (g := fun x => okV x.f0 x.f1 x.f2.data.toList) fun x _ => implValueOk_is _ _ _]
    congr 1
    rw [Bool.eq_iff_iff, hr, List.all_eq_true]
    exact ⟨fun g => ⟨g, h⟩, fun g => g.1⟩
  · rw [if_neg h]
    cases r with
    | false => rfl
    | true => exact absurd (hr.1 rfl).2 h
def CntP (w : Int) (xs : List S46) (j : Nat) : Prop :=
  RowP (xs.getD j z46).f0 w ∧ (xs.getD j z46).f1 ≠ 0 ∧ (-1000000000 ≤ (xs.getD j z46).f1 ∧ (xs.getD j z46).f1 ≤ 1000000000) ∧ (0 < j → cmpRow (xs.getD (j - 1) z46).f0 (xs.getD j z46).f0 < 0)
/-- A bag. -/
def BagP (w : Int) (xs : List S46) : Prop := (∀ j, j < xs.length → CntP w xs j) ∧ (0 ≤ w ∧ w ≤ 12) ∧ xs.length ≤ 400
open Classical in
theorem spec_bagOk_is (w : Int) (xs : List S46) (hn : xs.length ≤ 1048576) (hx : ∀ x ∈ xs, x.f0.length ≤ 1048576) (r : Bool) (hr : r = true ↔ BagP w xs) : Ev (fun k => spec_BagOk.f k w xs) r := by
  refine all_loop xs.length (fun k i => spec_BagOk.l0 k i w xs) (CntP w xs) ((0 ≤ w ∧ w ≤ 12) ∧ xs.length ≤ 400) ?_ ?_ r hr
  · intro r hr
    refine Ev.step (fun k => rfl) (ev_if_neg (by omega) (ev_some fun _ => ?_))
    rw [l01In_is, Option.bind_some]
    by_cases h : 0 ≤ w ∧ w ≤ 12
    · rw [if_pos (decide_eq_true h)]
      congr 1
      rw [Bool.eq_iff_iff, hr, decide_eq_true_eq]
      exact ⟨fun g => ⟨h, by omega⟩, fun g => by have := g.2; omega⟩
    · rw [if_neg (by simpa using h)]
      cases r with
      | false => rfl
      | true => exact absurd (hr.1 rfl).1 h
  · intro i hi r next no
    have len : ∀ j, j < xs.length → (xs.getD j z46).f0.length ≤ 9223372036854775807 := fun j hj => Nat.le_trans (hx _ (getD_mem _ hj)) (by omega)
    have stop : ¬ CntP w xs i → Ev (fun _ : Nat => some false) r := fun g => ev_conv (ev_some fun _ => rfl) (no g).symm
    refine Ev.step (fun k => rfl) (ev_if_pos (by omega) (ev_if_pos (by omega) (Ev.bind (spec_row_is (xs.getD i z46).f0 w (len i hi) (decide (RowP (xs.getD i z46).f0 w)) decide_eq_true_iff) ?_)))
    by_cases h1 : RowP (xs.getD i z46).f0 w
    case neg => exact ev_if_neg (by simpa using h1) (stop fun g => h1 g.1)
    refine ev_if_pos (decide_eq_true h1) ?_
    by_cases h2 : (xs.getD i z46).f1 = 0
    case pos => exact ev_if_pos h2 (stop fun g => g.2.1 h2)
    refine ev_if_neg h2 (ev_bind0 (l01In_is _ _ _) ?_)
    by_cases h3 : -1000000000 ≤ (xs.getD i z46).f1 ∧ (xs.getD i z46).f1 ≤ 1000000000
    case neg => exact ev_if_neg (by rw [decide_eq_true_eq]; exact h3) (stop fun g => h3 g.2.2.1)
    refine ev_if_pos (decide_eq_true h3) ?_
    rw [wrap_succ hi (by omega)]
    by_cases h4 : 0 < i
    case neg => exact ev_if_neg (by omega) (next ⟨h1, h2, h3, fun g => absurd g h4⟩)
    rw [wrap_pred h4 (by omega)]
    refine ev_if_pos (by omega) (ev_if_pos (by omega) (ev_if_pos (by omega) (Ev.bind (specCompareRow_is (xs.getD (i - 1) z46).f0 (xs.getD i z46).f0 (len (i - 1) (by omega))) ?_)))
    by_cases h5 : cmpRow (xs.getD (i - 1) z46).f0 (xs.getD i z46).f0 ≥ 0
    · exact ev_if_pos h5 (stop fun g => by have := g.2.2.2 h4; omega)
    · exact ev_if_neg h5 (next ⟨h1, h2, h3, fun _ => by omega⟩)
open Classical in
theorem impl_bagOk_is (w : Int) (xs : List S46) (hn : xs.length ≤ 1048576) (r : Bool) (hr : r = true ↔ BagP w xs) : Ev (fun k => impl_BagOk.f k w xs) r := by
  unfold impl_BagOk.f
  rw [within_is]
  refine Ev.congr (fun k => Option.bind_some _ _) ?_
  have no : ¬ BagP w xs → r = false := fun h => by
    cases r with
    | false => rfl
    | true => exact absurd (hr.1 rfl) h
  by_cases hw : 0 ≤ w ∧ w ≤ 12
  case neg => exact ev_if_neg (by rw [decide_eq_true_eq]; exact hw) (Ev.step (fun k => rfl) (ev_conv (ev_some fun _ => rfl) (no fun g => hw g.2.1).symm))
  refine ev_if_pos (decide_eq_true hw) ?_
  by_cases hl : (xs.length : Int) > 400
  case pos => exact Ev.step (fun k => rfl) (ev_if_pos (decide_eq_true hl) (ev_conv (ev_some fun _ => rfl) (no fun g => by have := g.2.2; omega).symm))
  refine Ev.step (fun k => rfl) (ev_if_neg (by rw [decide_eq_true_eq]; exact hl) ?_)
  refine all_loop xs.length (fun k i => impl_BagOk.l0 k xs (xs.length : Int) i w xs) (CntP w xs) True ?_ ?_ r (hr.trans ⟨fun g => ⟨g.1, trivial⟩, fun g => ⟨g.1, hw, by omega⟩⟩)
  · intro r hr
    exact Ev.step (fun k => rfl) (ev_if_neg (by omega) (ev_conv (ev_some fun _ => rfl) (hr.2 trivial).symm))
  · intro i hi r next no
    have stop : ¬ CntP w xs i → Ev (fun _ : Nat => some false) r := fun g => ev_conv (ev_some fun _ => rfl) (no g).symm
    refine Ev.step (fun k => rfl) (ev_if_pos (by omega) (ev_if_pos (by omega) (ev_if_pos (by omega) (ev_bind0 (impl_row_is (xs.getD i z46).f0 w (decide (RowP (xs.getD i z46).f0 w)) decide_eq_true_iff) ?_))))
    by_cases h1 : RowP (xs.getD i z46).f0 w
    case neg => exact ev_if_neg (by simpa using h1) (stop fun g => h1 g.1)
    refine ev_if_pos (decide_eq_true h1) ?_
    by_cases h2 : (xs.getD i z46).f1 = 0
    case pos => exact ev_if_pos h2 (stop fun g => g.2.1 h2)
    refine ev_if_neg h2 (ev_bind0 (within_is _ _ _) ?_)
    by_cases h3 : -1000000000 ≤ (xs.getD i z46).f1 ∧ (xs.getD i z46).f1 ≤ 1000000000
    case neg => exact ev_if_neg (by rw [decide_eq_true_eq]; exact h3) (stop fun g => h3 g.2.2.1)
    refine ev_if_pos (decide_eq_true h3) ?_
    rw [wrap_succ hi (by omega)]
    by_cases h4 : 0 < i
    case neg => exact ev_if_neg (by omega) (next ⟨h1, h2, h3, fun g => absurd g h4⟩)
    rw [wrap_pred h4 (by omega)]
    refine ev_if_pos (by omega) (ev_if_pos (by omega) (ev_if_pos (by omega) (Ev.bind (implCompareRow_is (xs.getD (i - 1) z46).f0 (xs.getD i z46).f0) ?_)))
    by_cases h5 : cmpRow (xs.getD (i - 1) z46).f0 (xs.getD i z46).f0 ≥ 0
    · exact ev_if_pos h5 (stop fun g => by have := g.2.2.2 h4; omega)
    · exact ev_if_neg h5 (next ⟨h1, h2, h3, fun _ => by omega⟩)
/-! #### the bytes of a bag -/
theorem okV_size {a b : Int} {s : List UInt8} (h : okV a b s = true) : s.length ≤ 100 := by
  unfold okV at h
  by_cases h0 : a = 0
  · rw [if_pos h0, Bool.and_eq_true, List.isEmpty_iff] at h
    rw [h.2]; simp
  rw [if_neg h0] at h
  by_cases h1 : a = 1
  · rw [if_pos h1, List.isEmpty_iff] at h
    rw [h]; simp
  rw [if_neg h1] at h
  by_cases h2 : a = 2
  · rw [if_pos h2, Bool.and_eq_true, List.isEmpty_iff] at h
    rw [h.2]; simp
  rw [if_neg h2] at h
  by_cases h3 : a = 3
  · rw [if_pos h3, Bool.and_eq_true, decide_eq_true_eq] at h
    exact h.2
  · rw [if_neg h3] at h
    cases h
theorem encV_le {a b : Int} {s : List UInt8} (h : s.length ≤ 100) : (encV a b s).length ≤ 110 := by
  unfold encV
  by_cases ok : okV a b s = true
  · rw [if_pos ok]
    by_cases h1 : a = 1
    · rw [if_pos h1]; simp [be8]
    rw [if_neg h1]
    by_cases h2 : a = 2
    · rw [if_pos h2]; simp
    rw [if_neg h2]
    by_cases h3 : a = 3
    · rw [if_pos h3]; simp; omega
    · rw [if_neg h3]; simp
  · rw [if_neg ok]; simp
def encX (x : S42) : List UInt8 := encV x.f0 x.f1 x.f2.data.toList
def encC (c : S46) : List UInt8 := encV 1 c.f1 [] ++ c.f0.flatMap encX
def smallC (c : S46) : Prop := c.f0.length ≤ 12 ∧ ∀ v ∈ c.f0, v.f2.data.toList.length ≤ 100
theorem flat_le {α : Type} (f : α → List UInt8) (b : Nat) : ∀ (l : List α), (∀ x ∈ l, (f x).length ≤ b) → (l.flatMap f).length ≤ l.length * b
  | [], _ => by simp
  | x :: l, h => by
    have h1 := h x (by simp)
    have h2 := flat_le f b l fun y hy => h y (by simp [hy])
    rw [List.flatMap_cons, List.length_append, List.length_cons, Nat.add_mul]
    omega
theorem bytesOf_u8 (l : List UInt8) : (bytesOf (mkB l)).map u8 = l := by
  unfold bytesOf
  rw [mkB_data, List.map_map]
  have : ∀ c : UInt8, (u8 ∘ fun b : UInt8 => (b.toNat : Int)) c = c := fun c => by
    show u8 (c.toNat : Int) = c
    unfold u8
    rw [Int.toNat_natCast]
    exact UInt8.toNat_inj.1 (by rw [UInt8.toNat_ofNat']; have := c.toNat_lt; omega)
  rw [show (u8 ∘ fun b : UInt8 => (b.toNat : Int)) = id from funext this, List.map_id]
theorem bytesOf_len (l : List UInt8) : (bytesOf (mkB l)).length = l.length := by unfold bytesOf; rw [mkB_data, List.length_map]
theorem specRow_loop (w : Int) (xs : List S46) (i : Nat) (hi : i < xs.length) (hs : smallC (xs.getD i z46)) (rest : List UInt8) (B : Nat) (hB : B ≤ 1000000000)
    (hF : ∀ acc : List Int, acc.length ≤ B → Ev (fun k => spec_PutBag.l0 k acc (wrap64 ((i : Int) + 1)) w xs) (mkB (acc.map u8 ++ rest))) :
    ∀ (n j : Nat) (acc : List Int), (xs.getD i z46).f0.length - j = n → j ≤ (xs.getD i z46).f0.length → acc.length + n * 110 ≤ B → Ev (fun k => spec_PutBag.l1 k acc (i : Int) (j : Int) w xs) (mkB (acc.map u8 ++ (((xs.getD i z46).f0.drop j).flatMap encX ++ rest))) := by
  have h0 : 0 ≤ (i : Int) := by omega
  have h1' : (i : Int) < (xs.length : Int) := by omega
  have e : (rd_T46 xs (i : Int)) = xs.getD i z46 := rfl
  obtain ⟨s1, s2⟩ := hs
  intro n
  induction n with
  | zero =>
    intro j acc h1 h2 h3
    refine Ev.step (fun k => rfl) (ev_if_pos h0 (ev_if_pos h1' ?_))
    rw [e]
    refine ev_if_neg (by omega) ?_
    rw [List.drop_of_length_le (by omega)]
    exact hF acc (by omega)
  | succ n ih =>
    intro j acc h1 h2 h3
    have hj : j < (xs.getD i z46).f0.length := by omega
    have hv := s2 _ (getD_mem z42 hj)
    have hz := size_data ((xs.getD i z46).f0.getD j z42).f2
    refine Ev.step (fun k => rfl) (ev_if_pos h0 (ev_if_pos h1' ?_))
    rw [e]
    refine ev_if_pos (by omega) (ev_if_pos (by omega) ?_)
    rw [drop_cons_getD z42 hj, List.flatMap_cons]
    have e2 : (rd_T42 (xs.getD i z46).f0 (j : Int)) = (xs.getD i z46).f0.getD j z42 := rfl
    rw [e2]
    generalize ((xs.getD i z46).f0.getD j z42) = v at *
    have hl : (encX v).length ≤ 110 := encV_le hv
    refine Ev.bind (specPutValue_is v.f0 v.f1 v.f2 (by omega)) (ev_if_pos (by show acc.length + (mkB (encX v)).size < _; rw [mkB_size]; omega) ?_)
    rw [wrap_succ hj (by omega)]
    have := ih (j + 1) (acc ++ bytesOf (mkB (encX v))) (by omega) (by omega) (by rw [List.length_append, bytesOf_len]; omega)
    rw [List.map_append, bytesOf_u8] at this
    simpa [encX] using this
theorem specPut_loop (w : Int) (xs : List S46) (hn : xs.length ≤ 400) (hx : ∀ c ∈ xs, smallC c) :
    ∀ (n i : Nat) (acc : List Int), xs.length - i = n → i ≤ xs.length → acc.length + n * 1500 ≤ 1000000 → Ev (fun k => spec_PutBag.l0 k acc (i : Int) w xs) (mkB (acc.map u8 ++ (xs.drop i).flatMap encC)) := by
  intro n
  induction n with
  | zero =>
    intro i acc h1 h2 h3
    refine Ev.step (fun k => rfl) (ev_if_neg (by omega) (ev_some fun _ => ?_))
    rw [List.drop_of_length_le (by omega), strOfNums_mk]
    simp
  | succ n ih =>
    intro i acc h1 h2 h3
    have hi : i < xs.length := by omega
    have hc := hx _ (getD_mem z46 hi)
    refine Ev.step (fun k => rfl) (ev_if_pos (by omega) (ev_if_pos (by omega) ?_))
    have e : (rd_T46 xs (i : Int)) = xs.getD i z46 := rfl
    rw [e, drop_cons_getD z46 hi, List.flatMap_cons]
    have hr := specRow_loop w xs i hi hc ((xs.drop (i + 1)).flatMap encC) (acc.length + 1450) (by omega) (fun a ha => by rw [wrap_succ hi (by omega)]; exact ih (i + 1) a (by omega) (by omega) (by omega))
    have hl : (encV 1 (xs.getD i z46).f1 []).length ≤ 110 := encV_le (by simp)
    have h12 := hc.1
    have hr0 := hr _ 0 (acc ++ bytesOf (mkB (encV 1 (xs.getD i z46).f1 []))) rfl (Nat.zero_le _) (by rw [List.length_append, bytesOf_len]; omega)
    rw [List.map_append, bytesOf_u8] at hr0
    have sp := specPutValue_is 1 (xs.getD i z46).f1 ⟨#[]⟩ (by decide)
    refine ev_bind0 (show spec_l01Int.f (xs.getD i z46).f1 = some (1, (xs.getD i z46).f1, (⟨#[]⟩ : ByteArray)) from rfl) (Ev.bind sp (ev_if_pos (by show acc.length + (mkB (encV 1 (xs.getD i z46).f1 [])).size < _; rw [mkB_size]; omega) ?_))
    have q : (⟨#[]⟩ : ByteArray).data.toList = [] := rfl
    rw [q]
    rw [show encC (xs.getD i z46) = encV 1 (xs.getD i z46).f1 [] ++ (xs.getD i z46).f0.flatMap encX from rfl]
    simpa using hr0
theorem implRow_loop (xs : List S46) (i : Nat) (row : List S42) (s1 : row.length ≤ 12) (s2 : ∀ v ∈ row, v.f2.data.toList.length ≤ 100) (rest : List UInt8) (B : Nat) (hB : B ≤ 1000000000)
    (hF : ∀ l : List UInt8, l.length ≤ B → Ev (fun k => impl_PutBag.l0 k (mkB l) xs (xs.length : Int) (wrap64 ((i : Int) + 1))) (mkB (l ++ rest))) :
    ∀ (n j : Nat) (l : List UInt8), row.length - j = n → j ≤ row.length → l.length + n * 110 ≤ B → Ev (fun k => impl_PutBag.l1 k (mkB l) xs (xs.length : Int) (i : Int) row (row.length : Int) (j : Int)) (mkB (l ++ ((row.drop j).flatMap encX ++ rest))) := by
  intro n
  induction n with
  | zero =>
    intro j l h1 h2 h3
    refine Ev.step (fun k => rfl) (ev_if_neg (by omega) ?_)
    rw [List.drop_of_length_le (by omega)]
    exact hF l (by omega)
  | succ n ih =>
    intro j l h1 h2 h3
    have hj : j < row.length := by omega
    have hv := s2 _ (getD_mem z42 hj)
    have hz := size_data (row.getD j z42).f2
    refine Ev.step (fun k => rfl) (ev_if_pos (by omega) (ev_if_pos (by omega) (ev_if_pos (by omega) ?_)))
    have e2 : (rd_T42 row (j : Int)) = row.getD j z42 := rfl
    rw [e2, drop_cons_getD z42 hj, List.flatMap_cons]
    generalize (row.getD j z42) = v at *
    have hl : (encX v).length ≤ 110 := encV_le hv
    refine Ev.bind (implPutValue_is v.f0 v.f1 v.f2 (by omega)) (ev_if_pos (by show (mkB l).size + (mkB (encX v)).size ≤ _; rw [mkB_size, mkB_size]; omega) ?_)
    rw [wrap_succ hj (by omega)]
    have := ih (j + 1) (l ++ encX v) (by omega) (by omega) (by rw [List.length_append]; omega)
    show Ev (fun k => impl_PutBag.l1 k (mkB l ++ mkB (encX v)) xs (xs.length : Int) (i : Int) row (row.length : Int) ((j + 1 : Nat) : Int)) _
    rw [mkB_append]
    simpa using this
theorem implPut_loop (xs : List S46) (hn : xs.length ≤ 400) (hx : ∀ c ∈ xs, smallC c) :
    ∀ (n i : Nat) (l : List UInt8), xs.length - i = n → i ≤ xs.length → l.length + n * 1500 ≤ 1000000 → Ev (fun k => impl_PutBag.l0 k (mkB l) xs (xs.length : Int) (i : Int)) (mkB (l ++ (xs.drop i).flatMap encC)) := by
  intro n
  induction n with
  | zero =>
    intro i l h1 h2 h3
    refine Ev.step (fun k => rfl) (ev_if_neg (by omega) (ev_some fun _ => ?_))
    rw [List.drop_of_length_le (by omega)]
    simp
  | succ n ih =>
    intro i l h1 h2 h3
    have hi : i < xs.length := by omega
    have hc := hx _ (getD_mem z46 hi)
    refine Ev.step (fun k => rfl) (ev_if_pos (by omega) (ev_if_pos (by omega) (ev_if_pos (by omega) ?_)))
    have e : (rd_T46 xs (i : Int)) = xs.getD i z46 := rfl
    rw [e, drop_cons_getD z46 hi, List.flatMap_cons]
    have hr := implRow_loop xs i (xs.getD i z46).f0 hc.1 hc.2 ((xs.drop (i + 1)).flatMap encC) (l.length + 1450) (by omega) (fun a ha => by rw [wrap_succ hi (by omega)]; exact ih (i + 1) a (by omega) (by omega) (by omega))
    have hl : (encV 1 (xs.getD i z46).f1 []).length ≤ 110 := encV_le (by simp)
    have h12 := hc.1
    have hr0 := hr _ 0 (l ++ encV 1 (xs.getD i z46).f1 []) rfl (Nat.zero_le _) (by rw [List.length_append]; omega)
    have sp := implPutValue_is 1 (xs.getD i z46).f1 ⟨#[]⟩ (by decide)
    refine ev_bind0 (show impl_number.f (xs.getD i z46).f1 = some (1, (xs.getD i z46).f1, (⟨#[]⟩ : ByteArray)) from rfl) (Ev.bind sp (ev_if_pos (by show (mkB l).size + (mkB (encV 1 (xs.getD i z46).f1 [])).size ≤ _; rw [mkB_size, mkB_size]; omega) ?_))
    have q : (⟨#[]⟩ : ByteArray).data.toList = [] := rfl
    rw [q, mkB_append]
    rw [show encC (xs.getD i z46) = encV 1 (xs.getD i z46).f1 [] ++ (xs.getD i z46).f0.flatMap encX from rfl]
    simpa using hr0
/-- The bytes of a bag; of what is none, none. -/
def encB (w : Int) (xs : List S46) : List UInt8 := u8 (w % 256) :: xs.flatMap encC
open Classical in
theorem putBag_is (w : Int) (xs : List S46) (hn : xs.length ≤ 1048576) (hx : ∀ c ∈ xs, c.f0.length ≤ 1048576) :
    ∃ t, Ev (fun k => impl_PutBag.f k w xs) t ∧ Ev (fun k => spec_PutBag.f k w xs) t := by
  have io := impl_bagOk_is w xs hn (decide (BagP w xs)) decide_eq_true_iff
  have so := spec_bagOk_is w xs hn hx (decide (BagP w xs)) decide_eq_true_iff
  by_cases h : BagP w xs
  · rw [decide_eq_true h] at io so
    have hn4 := h.2.2
    have hc : ∀ c ∈ xs, smallC c := (forall_getD z46 (p := smallC)).1 fun j hj => by
      have hr := (h.1 j hj).1
      exact ⟨by have := hr.2; have := h.2.1.2; omega, fun v hv => okV_size (hr.1 v hv)⟩
    have il := implPut_loop xs hn4 hc _ 0 [u8 (w % 256)] rfl (Nat.zero_le _) (by simp; omega)
    have sl := specPut_loop w xs hn4 hc _ 0 [w % 256] rfl (Nat.zero_le _) (by simp; omega)
    refine ⟨mkB (encB w xs), Ev.congr (fun k => rfl) (Ev.bind io (ev_if_pos rfl (Ev.bind (big1_is w) (ev_if_pos (by rw [mkB_size]; simp) ?_)))), Ev.congr (fun k => rfl) (Ev.bind so (ev_if_pos rfl ?_))⟩
    · show Ev (fun k => impl_PutBag.l0 k (mkB [] ++ mkB [u8 (w % 256)]) xs (xs.length : Int) 0) _
      rw [mkB_append]
      exact il
    · exact sl
  · rw [decide_eq_false h] at io so
    exact ⟨⟨#[]⟩, Ev.congr (fun k => rfl) (Ev.bind io (ev_if_neg (by simp) (ev_some fun _ => rfl))), Ev.congr (fun k => rfl) (Ev.bind so (ev_if_neg (by simp) (ev_some fun _ => rfl)))⟩
end Go.Proofs.Ytnibegacjmnhoaa.PFnExactPutBag
