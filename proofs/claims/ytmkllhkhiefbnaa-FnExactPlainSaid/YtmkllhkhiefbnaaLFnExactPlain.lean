/- Plain lemmas on what the functions of the law FnExactPlain compute: numbers and lists alone. -/
import Derived.Test.YtmkllhkhiefbnaaPFnExactPlainx0
import Derived.Test.YtmkllhkhiefbnaaPFnExactPlainx1
import Derived.Test.YtmkllhkhiefbnaaPFnExactPlainx2
import Derived.Test.YtmkllhkhiefbnaaPFnExactPlainx3
import Derived.Test.YtmkllhkhiefbnaaPFnExactPlainx4
import Derived.Test.YtmkllhkhiefbnaaPFnExactPlainx5
import Derived.Test.YtmkllhkhiefbnaaPFnExactPlainx6
import Derived.Test.YtmkllhkhiefbnaaPFnExactPlainx7
import Derived.Test.YtmkllhkhiefbnaaPFnExactPlainx8
import Derived.Test.YtmkllhkhiefbnaaOpen
import Derived.Test.YtmkllhkhiefbnaaZFnExactPlain
namespace Go.Proofs.Ytmkllhkhiefbnaa.PFnExactPlain
open Go.RowKit Go.Proofs.YtmkllhkhiefbnaaW.PrintWords Go.Proofs.YtmkllhkhiefbnaaW.PrintLast Go.Proofs.YtmkllhkhiefbnaaW.PrintMore Go.Proofs.YtmkllhkhiefbnaaOpen Go.Proofs.Ytmkllhkhiefbnaa.ZFnExactPlain
set_option linter.unusedVariables false
set_option linter.unusedSimpArgs false
/-- What is left of the bound behind a text. -/
theorem szValue_is (a b : Int) (s : ByteArray) (l : Int) (h0 : 0 ≤ l) (h1 : l ≤ 1048576) (hs : s.size ≤ 9223372036854775807) : laws_szValue.f a b s l = some (lft l s.size) := by
  unfold laws_szValue.f
  rw [wrap_id (x := l - (s.size : Int)) (by omega) (by omega)]
  by_cases h : l - (s.size : Int) < 0
  · rw [if_pos h, lft_of_gt (by omega)]
  · rw [if_neg h, lft_of_le (by omega)]
theorem cmpBytes_is (l m : List UInt8) : Go.Lib.compareBytes l m = if Op.bytesLess l m = true then -1 else if (Op.bytesLess l m || l == m) = true then 0 else 1 := by
  induction l generalizing m with
  | nil => cases m <;> simp [Go.Lib.compareBytes, Op.bytesLess]
  | cons a l ih =>
    cases m with
    | nil => simp [Go.Lib.compareBytes, Op.bytesLess]
    | cons b m =>
      simp only [Go.Lib.compareBytes, Op.bytesLess]
      by_cases h : a < b
      · simp [h]
      · by_cases h' : b < a
        · have hne : ¬ a = b := by rintro rfl; exact absurd h' h
          simp [h, h', hne]
        · have e : a = b := by
            apply UInt8.toNat_inj.1
            have h1 : ¬ a.toNat < b.toNat := h
            have h2 : ¬ b.toNat < a.toNat := h'
            omega
          subst e
          simp only [h, if_false, ih]
          simp
def cmpI (a b : Int) : Int := if a < b then -1 else if b < a then 1 else 0
theorem compare_int_is (a b : Int) : cmp_Compare_int.f a b = some (cmpI a b) := by
  unfold cmp_Compare_int.f cmp_isNaN_int.f cmpI
  simp only [Option.bind_some, bne_self_eq_false, Bool.false_eq_true, if_false, gt_iff_lt]
  by_cases h : a < b
  · simp [h]
  · by_cases h' : b < a <;> simp [h, h']
theorem or_three (k : Nat) (a b c : Int) : cmp_Or_int.f (k + 4) [a, b, c] = some (if a = 0 then (if b = 0 then c else b) else a) := by
  have w0 : wrap64 (0 + 1) = 1 := by unfold wrap64; omega
  have w1 : wrap64 (1 + 1) = 2 := by unfold wrap64; omega
  have w2 : wrap64 (2 + 1) = 3 := by unfold wrap64; omega
  unfold cmp_Or_int.f
  simp only [cmp_Or_int.l0, List.length_cons, List.length_nil, w0, w1, w2, rd]
  by_cases ha : a = 0
  · by_cases hb : b = 0
    · by_cases hc : c = 0
      · simp [ha, hb, hc]
      · simp [ha, hb, hc]
    · simp [ha, hb]
  · simp [ha]
theorem compareValue_is (k : Nat) (a b : Int) (s : ByteArray) (a' b' : Int) (s' : ByteArray) : impl_CompareValue.f (k + 4) a b s a' b' s' = some (cmpV a b s a' b' s') := by
  unfold impl_CompareValue.f strings_Compare.f bytealg_CompareString.f
  simp only [compare_int_is, Option.bind_some, or_three, cmpBytes_is]
  unfold cmpV cmpI
  have hd : ∀ z : ByteArray, z.toList = z.data.toList := fun z => ByteArray.toList_eq z
  rw [hd, hd]
  by_cases h1 : a < a'
  · simp [h1]
  · by_cases h2 : a' < a
    · simp [h1, h2]
    · by_cases h3 : b < b'
      · simp [h1, h2, h3]
      · by_cases h4 : b' < b
        · simp [h1, h2, h3, h4]
        · simp [h1, h2, h3, h4]
def wtV (x : S23) : Nat := x.f2.size
def wtVS (l : List S23) : Nat := l.length + (l.map wtV).sum
theorem szValueS_is (xs : List S23) (hn : xs.length ≤ 9223372036854775807) (hx : ∀ x ∈ xs, x.f2.size ≤ 9223372036854775807) (l : Int) (h0 : 0 ≤ l) (h1 : l ≤ 1048576) : Ev (fun k => laws_szValueS.f k xs l) (lft l (wtVS xs)) :=
  sz_list z23 laws_szValueS.f laws_szValueS.l0 (fun _ x l => laws_szValue.f x.f0 x.f1 x.f2 l) wtV (fun _ _ _ => rfl) (fun _ _ _ _ => rfl) xs hn (fun x hx' l h0 h1 => ev_some fun _ => szValue_is _ _ _ l h0 h1 (hx x hx')) l h0 h1
def toV (x : S23) : S29 := ⟨x.f0, x.f1, x.f2⟩
theorem toValueS_is (xs : List S23) (hn : xs.length ≤ 8796093022208) : Ev (fun k => laws_toValueS.f k xs) (xs.map toV) :=
  map_list z23 z29 laws_toValueS.f laws_toValueS.l0 (fun _ x => laws_toValue.f x.f0 x.f1 x.f2) (fun bt => (⟨bt.1, bt.2.1, bt.2.2⟩ : S29)) (fun x => (x.f0, x.f1, x.f2)) 8796093022208 (fun _ _ => rfl) (fun _ _ _ _ => rfl) xs hn (by omega) (fun x _ => ev_some fun _ => rfl)
theorem eqValue_refl (a b : Int) (s : ByteArray) : laws_eqValue.f a b s a b s = some true := by simp [laws_eqValue.f]
theorem eqValueS_refl (xs : List S29) (hn : xs.length ≤ 9223372036854775807) : Ev (fun k => laws_eqValueS.f k xs xs) true :=
  eq_list z29 laws_eqValueS.f laws_eqValueS.l0 (fun _ x y => laws_eqValue.f x.f0 x.f1 x.f2 y.f0 y.f1 y.f2) (fun _ _ _ => rfl) (fun _ _ _ _ => rfl) xs hn (fun x _ => ev_some fun _ => eqValue_refl _ _ _)
def wtC (x : S153) : Nat := wtVS x.f0
def wtCS (l : List S153) : Nat := l.length + (l.map wtC).sum
def okC (x : S153) : Prop := x.f0.length ≤ 9223372036854775807 ∧ ∀ y ∈ x.f0, y.f2.size ≤ 9223372036854775807
theorem szCounted_is (a : List S23) (n : Int) (hn : a.length ≤ 9223372036854775807) (hx : ∀ x ∈ a, x.f2.size ≤ 9223372036854775807) (l : Int) (h0 : 0 ≤ l) (h1 : l ≤ 1048576) : Ev (fun k => laws_szCounted.f k a n l) (lft l (wtVS a)) := by
  refine Ev.congr (fun k => rfl) (Ev.bind (szValueS_is a hn hx l h0 h1) (f := fun k t => if t < 0 then some (-1) else some t) ?_)
  by_cases h : (wtVS a : Int) ≤ l
  · exact ev_if_neg (by rw [lft_of_le h]; omega) (ev_some fun _ => rfl)
  · rw [lft_of_gt h]
    exact ev_if_pos (by omega) (ev_some fun _ => rfl)
theorem szCountedS_is (xs : List S153) (hn : xs.length ≤ 9223372036854775807) (hx : ∀ x ∈ xs, okC x) (l : Int) (h0 : 0 ≤ l) (h1 : l ≤ 1048576) : Ev (fun k => laws_szCountedS.f k xs l) (lft l (wtCS xs)) :=
  sz_list z153 laws_szCountedS.f laws_szCountedS.l0 (fun k x l => laws_szCounted.f k x.f0 x.f1 l) wtC (fun _ _ _ => rfl) (fun _ _ _ _ => rfl) xs hn (fun x hx' l h0 h1 => szCounted_is _ _ (hx x hx').1 (hx x hx').2 l h0 h1) l h0 h1
theorem szBag_is (w : Int) (xs : List S153) (hn : xs.length ≤ 9223372036854775807) (hx : ∀ x ∈ xs, okC x) (l : Int) (h0 : 0 ≤ l) (h1 : l ≤ 1048576) : Ev (fun k => laws_szBag.f k w xs l) (lft l (wtCS xs)) := by
  refine Ev.congr (fun k => rfl) (Ev.bind (szCountedS_is xs hn hx l h0 h1) (f := fun k t => if t < 0 then some (-1) else some t) ?_)
  by_cases h : (wtCS xs : Int) ≤ l
  · exact ev_if_neg (by rw [lft_of_le h]; omega) (ev_some fun _ => rfl)
  · rw [lft_of_gt h]
    exact ev_if_pos (by omega) (ev_some fun _ => rfl)
theorem sum_le_of_mem {α : Type} (f : α → Nat) {l : List α} {x : α} (h : x ∈ l) : f x ≤ (l.map f).sum := by
  induction l with
  | nil => cases h
  | cons a l ih =>
    rw [List.map_cons, List.sum_cons]
    rcases List.mem_cons.1 h with rfl | h
    · omega
    · have := ih h
      omega
def toC (x : S153) : S89 := ⟨x.f0.map toV, x.f1⟩
theorem toCounted_is (a : List S23) (n : Int) (hn : a.length ≤ 8796093022208) : Ev (fun k => laws_toCounted.f k a n) (a.map toV, n) :=
  Ev.bind (toValueS_is a hn) (f := fun k t => some (t, n)) (ev_some fun _ => rfl)
theorem toCountedS_is (xs : List S153) (hn : xs.length ≤ 8796093022208) (hx : ∀ x ∈ xs, x.f0.length ≤ 8796093022208) : Ev (fun k => laws_toCountedS.f k xs) (xs.map toC) :=
  map_list z153 z89 laws_toCountedS.f laws_toCountedS.l0 (fun k x => laws_toCounted.f k x.f0 x.f1) (fun bt => (⟨bt.1, bt.2⟩ : S89)) (fun x => (x.f0.map toV, x.f1)) 8796093022208 (fun _ _ => rfl) (fun _ _ _ _ => rfl) xs hn (by omega) (fun x h => toCounted_is _ _ (hx x h))
theorem toBag_is (w : Int) (xs : List S153) (hn : xs.length ≤ 8796093022208) (hx : ∀ x ∈ xs, x.f0.length ≤ 8796093022208) : Ev (fun k => laws_toBag.f k w xs) (w, xs.map toC) :=
  Ev.bind (toCountedS_is xs hn hx) (f := fun k t => some (w, t)) (ev_some fun _ => rfl)
theorem eqCounted_refl (a : List S29) (n : Int) (hn : a.length ≤ 9223372036854775807) : Ev (fun k => laws_eqCounted.f k a n a n) true := by
  refine Ev.congr (fun k => rfl) (Ev.bind (eqValueS_refl a hn) (f := fun k t => if t = true then (if n = n then some true else some false) else some false) ?_)
  exact ev_some fun _ => by simp
theorem eqCountedS_refl (xs : List S89) (hn : xs.length ≤ 9223372036854775807) (hx : ∀ x ∈ xs, x.f0.length ≤ 9223372036854775807) : Ev (fun k => laws_eqCountedS.f k xs xs) true :=
  eq_list z89 laws_eqCountedS.f laws_eqCountedS.l0 (fun k x y => laws_eqCounted.f k x.f0 x.f1 y.f0 y.f1) (fun _ _ _ => rfl) (fun _ _ _ _ => rfl) xs hn (fun x h => eqCounted_refl _ _ (hx x h))
theorem eqBag_refl (w : Int) (xs : List S89) (hn : xs.length ≤ 9223372036854775807) (hx : ∀ x ∈ xs, x.f0.length ≤ 9223372036854775807) : Ev (fun k => laws_eqBag.f k w xs w xs) true := by
  refine Ev.congr (fun k => if_pos rfl) (Ev.bind (eqCountedS_refl xs hn hx) (f := fun k t => if t = true then some true else some false) ?_)
  exact ev_some fun _ => by simp
/-- What the bound tells of a bag. -/
theorem bag_bounds {xs : List S153} {l : Int} (h : (wtCS xs : Int) ≤ l) (hl : l ≤ 1048576) : xs.length ≤ 1048576 ∧ ∀ x ∈ xs, x.f0.length ≤ 1048576 := by
  unfold wtCS at h
  refine ⟨by omega, fun x hx => ?_⟩
  have h1 := sum_le_of_mem wtC hx
  have h2 : x.f0.length ≤ wtC x := by unfold wtC wtVS; omega
  omega
theorem toC_len {xs : List S153} {n : Nat} (h : ∀ x ∈ xs, x.f0.length ≤ n) : ∀ x ∈ xs.map toC, x.f0.length ≤ n := by
  intro y hy
  obtain ⟨x, hx, rfl⟩ := List.mem_map.1 hy
  simpa [toC] using h x hx
/-- Is a value right. -/
def okV (a b : Int) (s : List UInt8) : Bool := if a = 0 then (b == 0 && s.isEmpty) else if a = 1 then s.isEmpty else if a = 2 then (decide (0 ≤ b ∧ b ≤ 1) && s.isEmpty) else if a = 3 then (b == 0 && decide (s.length ≤ 100)) else false
theorem specValueOk_is (a b : Int) (s : ByteArray) : spec_ValueOk.f a b s = some (okV a b s.data.toList) := by
  unfold spec_ValueOk.f okV spec_l01In.f
  have he : (s.toList == ([] : List UInt8)) = s.data.toList.isEmpty := by rw [toList_data]; cases s.data.toList <;> rfl
  rw [he, size_data]
  by_cases h0 : a = 0
  · by_cases hb : b = 0 <;> simp [h0, hb]
  · by_cases h1 : a = 1
    · simp [h1]
    · by_cases h2 : a = 2
      · by_cases hb : 0 ≤ b
        · by_cases hb' : b ≤ 1 <;> simp [h2, hb, hb']
        · simp [h2, hb]
      · by_cases h3 : a = 3
        · by_cases hb : b = 0
          · simp [h3, hb]
            omega
          · simp [h3, hb]
        · simp [h0, h1, h2, h3]
theorem implValueOk_is (a b : Int) (s : ByteArray) : impl_ValueOk.f a b s = some (okV a b s.data.toList) := specValueOk_is a b s
def cmpW (x y : S29) : Int := cmpV x.f0 x.f1 x.f2 y.f0 y.f1 y.f2
/-- The order of rows. -/
def cmpRow : List S29 → List S29 → Int
  | [], [] => 0
  | [], _ :: _ => -1
  | _ :: _, [] => 1
  | x :: xs, y :: ys => if cmpW x y = 0 then cmpRow xs ys else cmpW x y
theorem specCompareRow_tail (xs ys : List S29) (i : Nat) (h : i = xs.length ∨ i = ys.length) (h0 : i ≤ xs.length) (h1 : i ≤ ys.length) :
    (if (xs.length : Int) < (ys.length : Int) then (some (-1)) else (if (xs.length : Int) > (ys.length : Int) then (some 1) else (some 0))) = some (cmpRow (xs.drop i) (ys.drop i)) := by
  by_cases hx : i < xs.length
  · have hy : i = ys.length := by omega
    rw [if_neg (by omega), if_pos (by omega), drop_cons_getD z29 hx, show ys.drop i = [] from List.drop_eq_nil_of_le (by omega), cmpRow]
  · by_cases hy : i < ys.length
    · rw [if_pos (by omega), drop_cons_getD z29 hy, show xs.drop i = [] from List.drop_eq_nil_of_le (by omega), cmpRow]
    · rw [if_neg (by omega), if_neg (by omega), show xs.drop i = [] from List.drop_eq_nil_of_le (by omega), show ys.drop i = [] from List.drop_eq_nil_of_le (by omega), cmpRow]
theorem specCompareRow_loop (xs ys : List S29) (hn : xs.length ≤ 9223372036854775807) : ∀ (n i : Nat), xs.length - i = n → i ≤ xs.length → i ≤ ys.length → Ev (fun k => spec_CompareRow.l0 k xs ys i) (cmpRow (xs.drop i) (ys.drop i)) := by
  intro n
  induction n with
  | zero =>
    intro i h1 h2 h3
    refine Ev.step (fun k => rfl) (ev_if_neg (by omega) (Ev.step (fun k => rfl) (ev_some fun _ => specCompareRow_tail xs ys i (.inl (by omega)) h2 h3)))
  | succ n ih =>
    intro i h1 h2 h3
    have hi : i < xs.length := by omega
    refine Ev.step (fun k => rfl) (ev_if_pos (by omega) (Ev.step (fun k => rfl) ?_))
    by_cases hy : i < ys.length
    · refine ev_if_pos (decide_eq_true (by omega)) (ev_if_pos (by omega) (ev_if_pos (by omega) (ev_if_pos (by omega) ?_)))
      refine ev_bind0 (a := cmpW (xs.getD i z29) (ys.getD i z29)) (by rw [← Int.toNat_natCast i]; rfl) ?_
      rw [wrap_succ hi hn, drop_cons_getD z29 hi, drop_cons_getD z29 hy, cmpRow]
      by_cases hc : cmpW (xs.getD i z29) (ys.getD i z29) = 0
      · rw [if_pos hc]
        exact ev_if_pos hc (ih (i + 1) (by omega) (by omega) (by omega))
      · rw [if_neg hc]
        exact ev_if_neg hc (ev_some fun _ => rfl)
    · exact ev_if_neg (by simpa using hy) (ev_some fun _ => specCompareRow_tail xs ys i (.inr (by omega)) h2 h3)
theorem specCompareRow_is (xs ys : List S29) (hn : xs.length ≤ 9223372036854775807) : Ev (fun k => spec_CompareRow.f k xs ys) (cmpRow xs ys) := specCompareRow_loop xs ys hn xs.length 0 rfl (Nat.zero_le _) (Nat.zero_le _)
theorem implCompareRow_is4 (k : Nat) : ∀ xs ys, impl_CompareRow.f (k + 4) xs ys = some (cmpRow xs ys)
  | [], [] => rfl
  | [], _ :: _ => rfl
  | _ :: _, [] => rfl
  | x :: xs, y :: ys => by
    have ih := implCompareRow_is4 k xs ys
    unfold impl_CompareRow.f at ih ⊢
    rw [cmpO, compareValue_is, Option.bind_some, cmpRow, ih]
    show (if cmpW x y = 0 then _ else some (cmpW x y)) = _
    by_cases hc : cmpW x y = 0 <;> simp [hc]
theorem implCompareRow_is (xs ys : List S29) : Ev (fun k => impl_CompareRow.f k xs ys) (cmpRow xs ys) := ⟨4, fun k hk => by
  obtain ⟨m, rfl⟩ : ∃ m, k = m + 4 := ⟨k - 4, by omega⟩
  exact implCompareRow_is4 m xs ys⟩
/-- A row of values, so many. -/
def RowP (xs : List S29) (w : Int) : Prop := (∀ x ∈ xs, okV x.f0 x.f1 x.f2.data.toList = true) ∧ (xs.length : Int) = w
theorem l01In_is (a b c : Int) : spec_l01In.f a b c = some (decide (b ≤ a ∧ a ≤ c)) := by
  unfold spec_l01In.f
  by_cases h : a ≥ b
  · rw [if_pos h]
    by_cases h' : a ≤ c <;> simp [h', show b ≤ a from h]
  · rw [if_neg h, decide_eq_false (by omega)]
theorem spec_row_is (xs : List S29) (w : Int) (hn : xs.length ≤ 9223372036854775807) (r : Bool) (hr : r = true ↔ RowP xs w) : Ev (fun k => spec_l02Row.f k xs w) r := by
  refine all_loop xs.length (fun k i => spec_l02Row.l0 k xs w i) (fun j => okV (xs.getD j z29).f0 (xs.getD j z29).f1 (xs.getD j z29).f2.data.toList = true) ((xs.length : Int) = w) ?_ ?_ r (hr.trans ?_)
  · intro r hr
    refine Ev.step (fun k => rfl) (ev_if_neg (by omega) (ev_some fun _ => ?_))
    congr 1
    rw [Bool.eq_iff_iff, hr, beq_iff_eq]
  · intro i hi r next no
    refine Ev.step (fun k => rfl) (ev_if_pos (by omega) (ev_if_pos (by omega) (ev_bind0 (specValueOk_is _ _ _) ?_)))
    rw [wrap_succ hi hn]
    by_cases h : okV (xs.getD i z29).f0 (xs.getD i z29).f1 (xs.getD i z29).f2.data.toList = true
    · exact ev_if_pos h (next h)
    · exact ev_if_neg h (ev_conv (ev_some fun _ => rfl) (no h).symm)
  · unfold RowP
    rw [forall_getD z29 (p := fun x => okV x.f0 x.f1 x.f2.data.toList = true)]
theorem allO_eq {α : Type} {f : α → Option Bool} {g : α → Bool} : ∀ {xs : List α}, (∀ x ∈ xs, f x = some (g x)) → allO f xs = some (xs.all g)
  | [], _ => rfl
  | x :: xs, h => by
    rw [allO, h x (List.mem_cons_self ..), Option.bind_some, List.all_cons]
    cases g x with
    | false => rfl
    | true => rw [if_pos rfl, allO_eq fun y hy => h y (List.mem_cons_of_mem _ hy), Bool.true_and]
theorem allO_ev {α : Type} {f : Nat → α → Option Bool} {g : α → Bool} : ∀ {xs : List α}, (∀ x ∈ xs, Ev (fun k => f k x) (g x)) → Ev (fun k => allO (f k) xs) (xs.all g)
  | [], _ => ev_some fun _ => rfl
  | x :: xs, h => by
    refine Ev.bind (h x (List.mem_cons_self ..)) (f := fun k b => if b = true then allO (f k) xs else some false) ?_
    rw [List.all_cons]
    cases hg : g x with
    | false => exact ev_if_neg (by simp) (ev_some fun _ => rfl)
    | true => exact ev_if_pos rfl (ev_conv (allO_ev fun y hy => h y (List.mem_cons_of_mem _ hy)) (Bool.true_and _).symm)
theorem within_is (a b c : Int) : impl_within.f a b c = some (decide (b ≤ a ∧ a ≤ c)) := by
  unfold impl_within.f
  by_cases h : b ≤ a
  · rw [if_pos h]
    by_cases h' : a ≤ c <;> simp [h', h]
  · rw [if_neg h, decide_eq_false (by omega)]
theorem impl_row_is (xs : List S29) (w : Int) (r : Bool) (hr : r = true ↔ RowP xs w) : impl_isRow.f xs w = some r := by
  unfold impl_isRow.f
  by_cases h : (xs.length : Int) = w
  · rw [if_pos h, allO_eq (g := fun x => okV x.f0 x.f1 x.f2.data.toList) fun x _ => implValueOk_is _ _ _]
    congr 1
    rw [Bool.eq_iff_iff, hr, List.all_eq_true]
    exact ⟨fun g => ⟨g, h⟩, fun g => g.1⟩
  · rw [if_neg h]
    cases r with
    | false => rfl
    | true => exact absurd (hr.1 rfl).2 h
def CntP (w : Int) (xs : List S89) (j : Nat) : Prop :=
  RowP (xs.getD j z89).f0 w ∧ (xs.getD j z89).f1 ≠ 0 ∧ (-1000000000 ≤ (xs.getD j z89).f1 ∧ (xs.getD j z89).f1 ≤ 1000000000) ∧ (0 < j → cmpRow (xs.getD (j - 1) z89).f0 (xs.getD j z89).f0 < 0)
/-- A bag. -/
def BagP (w : Int) (xs : List S89) : Prop := (∀ j, j < xs.length → CntP w xs j) ∧ (0 ≤ w ∧ w ≤ 12) ∧ xs.length ≤ 400
open Classical in
theorem spec_bagOk_is (w : Int) (xs : List S89) (hn : xs.length ≤ 1048576) (hx : ∀ x ∈ xs, x.f0.length ≤ 1048576) (r : Bool) (hr : r = true ↔ BagP w xs) : Ev (fun k => spec_BagOk.f k w xs) r := by
  refine all_loop xs.length (fun k i => spec_BagOk.l0 k i w xs) (CntP w xs) ((0 ≤ w ∧ w ≤ 12) ∧ xs.length ≤ 400) ?_ ?_ r hr
  · intro r hr
    refine Ev.step (fun k => rfl) (ev_if_neg (by omega) (ev_some fun _ => ?_))
    rw [l01In_is, Option.bind_some]
    by_cases h : 0 ≤ w ∧ w ≤ 12
    · rw [if_pos (decide_eq_true h)]
      congr 1
      rw [Bool.eq_iff_iff, hr, decide_eq_true_eq]
      exact ⟨fun g => ⟨h, by omega⟩, fun g => by have := g.2; omega⟩
    · rw [if_neg (by simpa using h)]
      cases r with
      | false => rfl
      | true => exact absurd (hr.1 rfl).1 h
  · intro i hi r next no
    have len : ∀ j, j < xs.length → (xs.getD j z89).f0.length ≤ 9223372036854775807 := fun j hj => Nat.le_trans (hx _ (getD_mem _ hj)) (by omega)
    have stop : ¬ CntP w xs i → Ev (fun _ : Nat => some false) r := fun g => ev_conv (ev_some fun _ => rfl) (no g).symm
    refine Ev.step (fun k => rfl) (ev_if_pos (by omega) (ev_if_pos (by omega) (Ev.bind (spec_row_is (xs.getD i z89).f0 w (len i hi) (decide (RowP (xs.getD i z89).f0 w)) decide_eq_true_iff) ?_)))
    by_cases h1 : RowP (xs.getD i z89).f0 w
    case neg => exact ev_if_neg (by simpa using h1) (stop fun g => h1 g.1)
    refine ev_if_pos (decide_eq_true h1) ?_
    by_cases h2 : (xs.getD i z89).f1 = 0
    case pos => exact ev_if_pos h2 (stop fun g => g.2.1 h2)
    refine ev_if_neg h2 (ev_bind0 (l01In_is _ _ _) ?_)
    by_cases h3 : -1000000000 ≤ (xs.getD i z89).f1 ∧ (xs.getD i z89).f1 ≤ 1000000000
    case neg => exact ev_if_neg (by rw [decide_eq_true_eq]; exact h3) (stop fun g => h3 g.2.2.1)
    refine ev_if_pos (decide_eq_true h3) ?_
    rw [wrap_succ hi (by omega)]
    by_cases h4 : 0 < i
    case neg => exact ev_if_neg (by omega) (next ⟨h1, h2, h3, fun g => absurd g h4⟩)
    rw [wrap_pred h4 (by omega)]
    refine ev_if_pos (by omega) (ev_if_pos (by omega) (ev_if_pos (by omega) (Ev.bind (specCompareRow_is (xs.getD (i - 1) z89).f0 (xs.getD i z89).f0 (len (i - 1) (by omega))) ?_)))
    by_cases h5 : cmpRow (xs.getD (i - 1) z89).f0 (xs.getD i z89).f0 ≥ 0
    · exact ev_if_pos h5 (stop fun g => by have := g.2.2.2 h4; omega)
    · exact ev_if_neg h5 (next ⟨h1, h2, h3, fun _ => by omega⟩)
open Classical in
theorem impl_bagOk_is (w : Int) (xs : List S89) (hn : xs.length ≤ 1048576) (r : Bool) (hr : r = true ↔ BagP w xs) : Ev (fun k => impl_BagOk.f k w xs) r := by
  unfold impl_BagOk.f
  rw [within_is]
  refine Ev.congr (fun k => Option.bind_some _ _) ?_
  have no : ¬ BagP w xs → r = false := fun h => by
    cases r with
    | false => rfl
    | true => exact absurd (hr.1 rfl) h
  by_cases hw : 0 ≤ w ∧ w ≤ 12
  case neg => exact ev_if_neg (by rw [decide_eq_true_eq]; exact hw) (Ev.step (fun k => rfl) (ev_conv (ev_some fun _ => rfl) (no fun g => hw g.2.1).symm))
  refine ev_if_pos (decide_eq_true hw) ?_
  by_cases hl : (xs.length : Int) > 400
  case pos => exact Ev.step (fun k => rfl) (ev_if_pos (decide_eq_true hl) (ev_conv (ev_some fun _ => rfl) (no fun g => by have := g.2.2; omega).symm))
  refine Ev.step (fun k => rfl) (ev_if_neg (by rw [decide_eq_true_eq]; exact hl) ?_)
  refine all_loop xs.length (fun k i => impl_BagOk.l0 k xs (xs.length : Int) i w xs) (CntP w xs) True ?_ ?_ r (hr.trans ⟨fun g => ⟨g.1, trivial⟩, fun g => ⟨g.1, hw, by omega⟩⟩)
  · intro r hr
    exact Ev.step (fun k => rfl) (ev_if_neg (by omega) (ev_conv (ev_some fun _ => rfl) (hr.2 trivial).symm))
  · intro i hi r next no
    have stop : ¬ CntP w xs i → Ev (fun _ : Nat => some false) r := fun g => ev_conv (ev_some fun _ => rfl) (no g).symm
    refine Ev.step (fun k => rfl) (ev_if_pos (by omega) (ev_if_pos (by omega) (ev_if_pos (by omega) (ev_bind0 (impl_row_is (xs.getD i z89).f0 w (decide (RowP (xs.getD i z89).f0 w)) decide_eq_true_iff) ?_))))
    by_cases h1 : RowP (xs.getD i z89).f0 w
    case neg => exact ev_if_neg (by simpa using h1) (stop fun g => h1 g.1)
    refine ev_if_pos (decide_eq_true h1) ?_
    by_cases h2 : (xs.getD i z89).f1 = 0
    case pos => exact ev_if_pos h2 (stop fun g => g.2.1 h2)
    refine ev_if_neg h2 (ev_bind0 (within_is _ _ _) ?_)
    by_cases h3 : -1000000000 ≤ (xs.getD i z89).f1 ∧ (xs.getD i z89).f1 ≤ 1000000000
    case neg => exact ev_if_neg (by rw [decide_eq_true_eq]; exact h3) (stop fun g => h3 g.2.2.1)
    refine ev_if_pos (decide_eq_true h3) ?_
    rw [wrap_succ hi (by omega)]
    by_cases h4 : 0 < i
    case neg => exact ev_if_neg (by omega) (next ⟨h1, h2, h3, fun g => absurd g h4⟩)
    rw [wrap_pred h4 (by omega)]
    refine ev_if_pos (by omega) (ev_if_pos (by omega) (ev_if_pos (by omega) (Ev.bind (implCompareRow_is (xs.getD (i - 1) z89).f0 (xs.getD i z89).f0) ?_)))
    by_cases h5 : cmpRow (xs.getD (i - 1) z89).f0 (xs.getD i z89).f0 ≥ 0
    · exact ev_if_pos h5 (stop fun g => by have := g.2.2.2 h4; omega)
    · exact ev_if_neg h5 (next ⟨h1, h2, h3, fun _ => by omega⟩)
/-- A plain bag. -/
def PlainP (w : Int) (xs : List S89) : Prop := (∀ x ∈ xs, 0 ≤ x.f1) ∧ BagP w xs
open Classical in
theorem spec_plain_is (w : Int) (xs : List S89) (hn : xs.length ≤ 1048576) (hx : ∀ x ∈ xs, x.f0.length ≤ 1048576) (r : Bool) (hr : r = true ↔ PlainP w xs) : Ev (fun k => spec_Plain.f k w xs) r := by
  refine all_loop xs.length (fun k i => spec_Plain.l0 k i w xs) (fun j => 0 ≤ (xs.getD j z89).f1) (BagP w xs) ?_ ?_ r (hr.trans ?_)
  · intro r hr
    exact Ev.step (fun k => rfl) (ev_if_neg (by omega) (Ev.bind (spec_bagOk_is w xs hn hx r hr) (ev_some fun _ => rfl)))
  · intro i hi r next no
    refine Ev.step (fun k => rfl) (ev_if_pos (by omega) (ev_if_pos (by omega) ?_))
    rw [wrap_succ hi (by omega)]
    by_cases h : (xs.getD i z89).f1 < 0
    · exact ev_if_pos h (ev_conv (ev_some fun _ => rfl) (no (by omega)).symm)
    · exact ev_if_neg h (next (by omega))
  · unfold PlainP
    rw [forall_getD z89 (p := fun x => 0 ≤ x.f1)]
open Classical in
theorem impl_plain_is (w : Int) (xs : List S89) (hn : xs.length ≤ 1048576) (r : Bool) (hr : r = true ↔ PlainP w xs) : Ev (fun k => impl_Plain.f k w xs) r := by
  unfold impl_Plain.f
  refine Ev.bind (impl_bagOk_is w xs hn (decide (BagP w xs)) decide_eq_true_iff) ?_
  by_cases hb : BagP w xs
  · refine ev_if_pos (decide_eq_true hb) (ev_some fun _ => ?_)
    rw [allO_eq (f := fun x : S89 => impl_Plain_1.f x.f0 x.f1) (g := fun x => decide (x.f1 > 0)) fun x _ => rfl]
    congr 1
    rw [Bool.eq_iff_iff, hr, List.all_eq_true]
    have ne : ∀ x ∈ xs, x.f1 ≠ 0 := (forall_getD z89 (p := fun x => x.f1 ≠ 0)).1 fun j hj => (hb.1 j hj).2.1
    refine ⟨fun h => ⟨fun x hx => ?_, hb⟩, fun h x hx => decide_eq_true ?_⟩
    · have := of_decide_eq_true (h x hx)
      omega
    · have h1 := ne x hx
      have h2 := h.1 x hx
      omega
  · refine ev_if_neg (by simpa using hb) (ev_conv (ev_some fun _ => rfl) ?_)
    cases r with
    | false => rfl
    | true => exact absurd (hr.1 rfl).2 hb
end Go.Proofs.Ytmkllhkhiefbnaa.PFnExactPlain
