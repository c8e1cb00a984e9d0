/- Plain lemmas on what the functions of the law FnExactBagText compute: numbers and lists alone. -/
import Derived.Test.YthgdmdabdlgliaaDoorPFnExactBagTextx0
import Derived.Test.YthgdmdabdlgliaaDoorPFnExactBagTextx1
import Derived.Test.YthgdmdabdlgliaaDoorPFnExactBagTextx2
import Derived.Test.YthgdmdabdlgliaaDoorPFnExactBagTextx3
import Derived.Test.YthgdmdabdlgliaaDoorPFnExactBagTextx4
import Derived.Test.YthgdmdabdlgliaaDoorPFnExactBagTextx5
import Derived.Test.YthgdmdabdlgliaaDoorPFnExactBagTextx6
import Derived.Test.YthgdmdabdlgliaaDoorPFnExactBagTextx7
import Derived.Test.YthgdmdabdlgliaaDoorPFnExactBagTextx8
import Derived.Test.YthgdmdabdlgliaaDoorPFnExactBagTextx9
import Derived.Test.YthgdmdabdlgliaaDoorOpen
import Derived.Test.YthgdmdabdlgliaaDoorZFnExactBagText
namespace Go.Proofs.YthgdmdabdlgliaaDoor.PFnExactBagText
open Go.RowKit Go.Proofs.YthgdmdabdlgliaaDoorW.PrintWords Go.Proofs.YthgdmdabdlgliaaDoorW.PrintLast Go.Proofs.YthgdmdabdlgliaaDoorW.PrintMore Go.Proofs.YthgdmdabdlgliaaDoorOpen Go.Proofs.YthgdmdabdlgliaaDoor.ZFnExactBagText
set_option linter.unusedVariables false
set_option linter.unusedSimpArgs false
/-- What is left of the bound behind a text. -/
theorem szValue_is (a b : Int) (s : ByteArray) (l : Int) (h0 : 0 ≤ l) (h1 : l ≤ 1048576) (hs : s.size ≤ 9223372036854775807) : laws_szValue.f a b s l = some (lft l s.size) := by
  unfold laws_szValue.f
  rw [wrap_id (x := l - (s.size : Int)) (by omega) (by omega)]
  by_cases h : l - (s.size : Int) < 0
  · rw [if_pos h, lft_of_gt (by omega)]
  · rw [if_neg h, lft_of_le (by omega)]
theorem cmpBytes_is (l m : List UInt8) : Go.Lib.compareBytes l m = if Op.bytesLess l m = true then -1 else if (Op.bytesLess l m || l == m) = true then 0 else 1 := by
  induction l generalizing m with
  | nil => cases m <;> simp [Go.Lib.compareBytes, Op.bytesLess]
  | cons a l ih =>
    cases m with
    | nil => simp [Go.Lib.compareBytes, Op.bytesLess]
    | cons b m =>
      simp only [Go.Lib.compareBytes, Op.bytesLess]
      by_cases h : a < b
      · simp [h]
      · by_cases h' : b < a
        · have hne : ¬ a = b := by rintro rfl; exact absurd h' h
          simp [h, h', hne]
        · have e : a = b := by
            apply UInt8.toNat_inj.1
            have h1 : ¬ a.toNat < b.toNat := h
            have h2 : ¬ b.toNat < a.toNat := h'
            omega
          subst e
          simp only [h, if_false, ih]
          simp
def cmpI (a b : Int) : Int := if a < b then -1 else if b < a then 1 else 0
theorem compare_int_is (a b : Int) : cmp_Compare_int.f a b = some (cmpI a b) := by
  unfold cmp_Compare_int.f cmp_isNaN_int.f cmpI
  simp only [Option.bind_some, bne_self_eq_false, Bool.false_eq_true, if_false, gt_iff_lt]
  by_cases h : a < b
  · simp [h]
  · by_cases h' : b < a <;> simp [h, h']
theorem or_three (k : Nat) (a b c : Int) : cmp_Or_int.f (k + 4) [a, b, c] = some (if a = 0 then (if b = 0 then c else b) else a) := by
  have w0 : wrap64 (0 + 1) = 1 := by unfold wrap64; omega
  have w1 : wrap64 (1 + 1) = 2 := by unfold wrap64; omega
  have w2 : wrap64 (2 + 1) = 3 := by unfold wrap64; omega
  unfold cmp_Or_int.f
  simp only [cmp_Or_int.l0, List.length_cons, List.length_nil, w0, w1, w2, rd]
  by_cases ha : a = 0
  · by_cases hb : b = 0
    · by_cases hc : c = 0
      · simp [ha, hb, hc]
      · simp [ha, hb, hc]
    · simp [ha, hb]
  · simp [ha]
theorem compareValue_is (k : Nat) (a b : Int) (s : ByteArray) (a' b' : Int) (s' : ByteArray) : impl_CompareValue.f (k + 4) a b s a' b' s' = some (cmpV a b s a' b' s') := by
  unfold impl_CompareValue.f strings_Compare.f bytealg_CompareString.f
  simp only [compare_int_is, Option.bind_some, or_three, cmpBytes_is]
  unfold cmpV cmpI
  have hd : ∀ z : ByteArray, z.toList = z.data.toList := fun z => ByteArray.toList_eq z
  rw [hd, hd]
  by_cases h1 : a < a'
  · simp [h1]
  · by_cases h2 : a' < a
    · simp [h1, h2]
    · by_cases h3 : b < b'
      · simp [h1, h2, h3]
      · by_cases h4 : b' < b
        · simp [h1, h2, h3, h4]
        · simp [h1, h2, h3, h4]
def wtV (x : S23) : Nat := x.f2.size
def wtVS (l : List S23) : Nat := l.length + (l.map wtV).sum
theorem szValueS_is (xs : List S23) (hn : xs.length ≤ 9223372036854775807) (hx : ∀ x ∈ xs, x.f2.size ≤ 9223372036854775807) (l : Int) (h0 : 0 ≤ l) (h1 : l ≤ 1048576) : Ev (fun k => laws_szValueS.f k xs l) (lft l (wtVS xs)) :=
  sz_list z23 laws_szValueS.f laws_szValueS.l0 (fun _ x l => laws_szValue.f x.f0 x.f1 x.f2 l) wtV (fun _ _ _ => rfl) (fun _ _ _ _ => rfl) xs hn (fun x hx' l h0 h1 => ev_some fun _ => szValue_is _ _ _ l h0 h1 (hx x hx')) l h0 h1
def toV (x : S23) : S29 := ⟨x.f0, x.f1, x.f2⟩
theorem toValueS_is (xs : List S23) (hn : xs.length ≤ 8796093022208) : Ev (fun k => laws_toValueS.f k xs) (xs.map toV) :=
  map_list z23 z29 laws_toValueS.f laws_toValueS.l0 (fun _ x => laws_toValue.f x.f0 x.f1 x.f2) (fun bt => (⟨bt.1, bt.2.1, bt.2.2⟩ : S29)) (fun x => (x.f0, x.f1, x.f2)) 8796093022208 (fun _ _ => rfl) (fun _ _ _ _ => rfl) xs hn (by omega) (fun x _ => ev_some fun _ => rfl)
theorem eqValue_refl (a b : Int) (s : ByteArray) : laws_eqValue.f a b s a b s = some true := by simp [laws_eqValue.f]
theorem eqValueS_refl (xs : List S29) (hn : xs.length ≤ 9223372036854775807) : Ev (fun k => laws_eqValueS.f k xs xs) true :=
  eq_list z29 laws_eqValueS.f laws_eqValueS.l0 (fun _ x y => laws_eqValue.f x.f0 x.f1 x.f2 y.f0 y.f1 y.f2) (fun _ _ _ => rfl) (fun _ _ _ _ => rfl) xs hn (fun x _ => ev_some fun _ => eqValue_refl _ _ _)
def wtC (x : S135) : Nat := wtVS x.f0
def wtCS (l : List S135) : Nat := l.length + (l.map wtC).sum
def okC (x : S135) : Prop := x.f0.length ≤ 9223372036854775807 ∧ ∀ y ∈ x.f0, y.f2.size ≤ 9223372036854775807
theorem szCounted_is (a : List S23) (n : Int) (hn : a.length ≤ 9223372036854775807) (hx : ∀ x ∈ a, x.f2.size ≤ 9223372036854775807) (l : Int) (h0 : 0 ≤ l) (h1 : l ≤ 1048576) : Ev (fun k => laws_szCounted.f k a n l) (lft l (wtVS a)) := by
  refine Ev.congr (fun k => rfl) (Ev.bind (szValueS_is a hn hx l h0 h1) (f := fun k t => if t < 0 then some (-1) else some t) ?_)
  by_cases h : (wtVS a : Int) ≤ l
  · exact ev_if_neg (by rw [lft_of_le h]; omega) (ev_some fun _ => rfl)
  · rw [lft_of_gt h]
    exact ev_if_pos (by omega) (ev_some fun _ => rfl)
theorem szCountedS_is (xs : List S135) (hn : xs.length ≤ 9223372036854775807) (hx : ∀ x ∈ xs, okC x) (l : Int) (h0 : 0 ≤ l) (h1 : l ≤ 1048576) : Ev (fun k => laws_szCountedS.f k xs l) (lft l (wtCS xs)) :=
  sz_list z135 laws_szCountedS.f laws_szCountedS.l0 (fun k x l => laws_szCounted.f k x.f0 x.f1 l) wtC (fun _ _ _ => rfl) (fun _ _ _ _ => rfl) xs hn (fun x hx' l h0 h1 => szCounted_is _ _ (hx x hx').1 (hx x hx').2 l h0 h1) l h0 h1
theorem szBag_is (w : Int) (xs : List S135) (hn : xs.length ≤ 9223372036854775807) (hx : ∀ x ∈ xs, okC x) (l : Int) (h0 : 0 ≤ l) (h1 : l ≤ 1048576) : Ev (fun k => laws_szBag.f k w xs l) (lft l (wtCS xs)) := by
  refine Ev.congr (fun k => rfl) (Ev.bind (szCountedS_is xs hn hx l h0 h1) (f := fun k t => if t < 0 then some (-1) else some t) ?_)
  by_cases h : (wtCS xs : Int) ≤ l
  · exact ev_if_neg (by rw [lft_of_le h]; omega) (ev_some fun _ => rfl)
  · rw [lft_of_gt h]
    exact ev_if_pos (by omega) (ev_some fun _ => rfl)
theorem sum_le_of_mem {α : Type} (f : α → Nat) {l : List α} {x : α} (h : x ∈ l) : f x ≤ (l.map f).sum := by
  induction l with
  | nil => cases h
  | cons a l ih =>
    rw [List.map_cons, List.sum_cons]
    rcases List.mem_cons.1 h with rfl | h
    · omega
    · have := ih h
      omega
def toC (x : S135) : S109 := ⟨x.f0.map toV, x.f1⟩
theorem toCounted_is (a : List S23) (n : Int) (hn : a.length ≤ 8796093022208) : Ev (fun k => laws_toCounted.f k a n) (a.map toV, n) :=
  Ev.bind (toValueS_is a hn) (f := fun k t => some (t, n)) (ev_some fun _ => rfl)
theorem toCountedS_is (xs : List S135) (hn : xs.length ≤ 8796093022208) (hx : ∀ x ∈ xs, x.f0.length ≤ 8796093022208) : Ev (fun k => laws_toCountedS.f k xs) (xs.map toC) :=
  map_list z135 z109 laws_toCountedS.f laws_toCountedS.l0 (fun k x => laws_toCounted.f k x.f0 x.f1) (fun bt => (⟨bt.1, bt.2⟩ : S109)) (fun x => (x.f0.map toV, x.f1)) 8796093022208 (fun _ _ => rfl) (fun _ _ _ _ => rfl) xs hn (by omega) (fun x h => toCounted_is _ _ (hx x h))
theorem toBag_is (w : Int) (xs : List S135) (hn : xs.length ≤ 8796093022208) (hx : ∀ x ∈ xs, x.f0.length ≤ 8796093022208) : Ev (fun k => laws_toBag.f k w xs) (w, xs.map toC) :=
  Ev.bind (toCountedS_is xs hn hx) (f := fun k t => some (w, t)) (ev_some fun _ => rfl)
theorem eqCounted_refl (a : List S29) (n : Int) (hn : a.length ≤ 9223372036854775807) : Ev (fun k => laws_eqCounted.f k a n a n) true := by
  refine Ev.congr (fun k => rfl) (Ev.bind (eqValueS_refl a hn) (f := fun k t => if t = true then (if n = n then some true else some false) else some false) ?_)
  exact ev_some fun _ => by simp
theorem eqCountedS_refl (xs : List S109) (hn : xs.length ≤ 9223372036854775807) (hx : ∀ x ∈ xs, x.f0.length ≤ 9223372036854775807) : Ev (fun k => laws_eqCountedS.f k xs xs) true :=
  eq_list z109 laws_eqCountedS.f laws_eqCountedS.l0 (fun k x y => laws_eqCounted.f k x.f0 x.f1 y.f0 y.f1) (fun _ _ _ => rfl) (fun _ _ _ _ => rfl) xs hn (fun x h => eqCounted_refl _ _ (hx x h))
theorem eqBag_refl (w : Int) (xs : List S109) (hn : xs.length ≤ 9223372036854775807) (hx : ∀ x ∈ xs, x.f0.length ≤ 9223372036854775807) : Ev (fun k => laws_eqBag.f k w xs w xs) true := by
  refine Ev.congr (fun k => if_pos rfl) (Ev.bind (eqCountedS_refl xs hn hx) (f := fun k t => if t = true then some true else some false) ?_)
  exact ev_some fun _ => by simp
/-- What the bound tells of a bag. -/
theorem bag_bounds {xs : List S135} {l : Int} (h : (wtCS xs : Int) ≤ l) (hl : l ≤ 1048576) : xs.length ≤ 1048576 ∧ ∀ x ∈ xs, x.f0.length ≤ 1048576 := by
  unfold wtCS at h
  refine ⟨by omega, fun x hx => ?_⟩
  have h1 := sum_le_of_mem wtC hx
  have h2 : x.f0.length ≤ wtC x := by unfold wtC wtVS; omega
  omega
theorem toC_len {xs : List S135} {n : Nat} (h : ∀ x ∈ xs, x.f0.length ≤ n) : ∀ x ∈ xs.map toC, x.f0.length ≤ n := by
  intro y hy
  obtain ⟨x, hx, rfl⟩ := List.mem_map.1 hy
  simpa [toC] using h x hx
/-- Is a value right. -/
def okV (a b : Int) (s : List UInt8) : Bool := if a = 0 then (b == 0 && s.isEmpty) else if a = 1 then s.isEmpty else if a = 2 then (decide (0 ≤ b ∧ b ≤ 1) && s.isEmpty) else if a = 3 then (b == 0 && decide (s.length ≤ 100)) else false
theorem specValueOk_is (a b : Int) (s : ByteArray) : spec_ValueOk.f a b s = some (okV a b s.data.toList) := by
  unfold spec_ValueOk.f okV spec_l01In.f
  have he : (s.toList == ([] : List UInt8)) = s.data.toList.isEmpty := by rw [toList_data]; cases s.data.toList <;> rfl
  rw [he, size_data]
  by_cases h0 : a = 0
  · by_cases hb : b = 0 <;> simp [h0, hb]
  · by_cases h1 : a = 1
    · simp [h1]
    · by_cases h2 : a = 2
      · by_cases hb : 0 ≤ b
        · by_cases hb' : b ≤ 1 <;> simp [h2, hb, hb']
        · simp [h2, hb]
      · by_cases h3 : a = 3
        · by_cases hb : b = 0
          · simp [h3, hb]
            omega
          · simp [h3, hb]
        · simp [h0, h1, h2, h3]
theorem implValueOk_is (a b : Int) (s : ByteArray) : impl_ValueOk.f a b s = some (okV a b s.data.toList) := specValueOk_is a b s
def cmpW (x y : S29) : Int := cmpV x.f0 x.f1 x.f2 y.f0 y.f1 y.f2
/-- The order of rows. -/
def cmpRow : List S29 → List S29 → Int
  | [], [] => 0
  | [], _ :: _ => -1
  | _ :: _, [] => 1
  | x :: xs, y :: ys => if cmpW x y = 0 then cmpRow xs ys else cmpW x y
theorem specCompareRow_tail (xs ys : List S29) (i : Nat) (h : i = xs.length ∨ i = ys.length) (h0 : i ≤ xs.length) (h1 : i ≤ ys.length) :
    (if (xs.length : Int) < (ys.length : Int) then (some (-1)) else (if (xs.length : Int) > (ys.length : Int) then (some 1) else (some 0))) = some (cmpRow (xs.drop i) (ys.drop i)) := by
  by_cases hx : i < xs.length
  · have hy : i = ys.length := by omega
    rw [if_neg (by omega), if_pos (by omega), drop_cons_getD z29 hx, show ys.drop i = [] from List.drop_eq_nil_of_le (by omega), cmpRow]
  · by_cases hy : i < ys.length
    · rw [if_pos (by omega), drop_cons_getD z29 hy, show xs.drop i = [] from List.drop_eq_nil_of_le (by omega), cmpRow]
    · rw [if_neg (by omega), if_neg (by omega), show xs.drop i = [] from List.drop_eq_nil_of_le (by omega), show ys.drop i = [] from List.drop_eq_nil_of_le (by omega), cmpRow]
theorem specCompareRow_loop (xs ys : List S29) (hn : xs.length ≤ 9223372036854775807) : ∀ (n i : Nat), xs.length - i = n → i ≤ xs.length → i ≤ ys.length → Ev (fun k => spec_CompareRow.l0 k xs ys i) (cmpRow (xs.drop i) (ys.drop i)) := by
  intro n
  induction n with
  | zero =>
    intro i h1 h2 h3
    refine Ev.step (fun k => rfl) (ev_if_neg (by omega) (Ev.step (fun k => rfl) (ev_some fun _ => specCompareRow_tail xs ys i (.inl (by omega)) h2 h3)))
  | succ n ih =>
    intro i h1 h2 h3
    have hi : i < xs.length := by omega
    refine Ev.step (fun k => rfl) (ev_if_pos (by omega) (Ev.step (fun k => rfl) ?_))
    by_cases hy : i < ys.length
    · refine ev_if_pos (decide_eq_true (by omega)) (ev_if_pos (by omega) (ev_if_pos (by omega) (ev_if_pos (by omega) ?_)))
      refine ev_bind0 (a := cmpW (xs.getD i z29) (ys.getD i z29)) (by rw [← Int.toNat_natCast i]; rfl) ?_
      rw [wrap_succ hi hn, drop_cons_getD z29 hi, drop_cons_getD z29 hy, cmpRow]
      by_cases hc : cmpW (xs.getD i z29) (ys.getD i z29) = 0
      · rw [if_pos hc]
        exact ev_if_pos hc (ih (i + 1) (by omega) (by omega) (by omega))
      · rw [if_neg hc]
        exact ev_if_neg hc (ev_some fun _ => rfl)
    · exact ev_if_neg (by simpa using hy) (ev_some fun _ => specCompareRow_tail xs ys i (.inr (by omega)) h2 h3)
theorem specCompareRow_is (xs ys : List S29) (hn : xs.length ≤ 9223372036854775807) : Ev (fun k => spec_CompareRow.f k xs ys) (cmpRow xs ys) := specCompareRow_loop xs ys hn xs.length 0 rfl (Nat.zero_le _) (Nat.zero_le _)
theorem implCompareRow_is4 (k : Nat) : ∀ xs ys, impl_CompareRow.f (k + 4) xs ys = some (cmpRow xs ys)
  | [], [] => rfl
  | [], _ :: _ => rfl
  | _ :: _, [] => rfl
  | x :: xs, y :: ys => by
    have ih := implCompareRow_is4 k xs ys
    unfold impl_CompareRow.f at ih ⊢
    rw [cmpO, compareValue_is, Option.bind_some, cmpRow, ih]
    show (if cmpW x y = 0 then _ else some (cmpW x y)) = _
    by_cases hc : cmpW x y = 0 <;> simp [hc]
theorem implCompareRow_is (xs ys : List S29) : Ev (fun k => impl_CompareRow.f k xs ys) (cmpRow xs ys) := ⟨4, fun k hk => by
  obtain ⟨m, rfl⟩ : ∃ m, k = m + 4 := ⟨k - 4, by omega⟩
  exact implCompareRow_is4 m xs ys⟩
/-- A row of values, so many. -/
def RowP (xs : List S29) (w : Int) : Prop := (∀ x ∈ xs, okV x.f0 x.f1 x.f2.data.toList = true) ∧ (xs.length : Int) = w
theorem l01In_is (a b c : Int) : spec_l01In.f a b c = some (decide (b ≤ a ∧ a ≤ c)) := by
  unfold spec_l01In.f
  by_cases h : a ≥ b
  · rw [if_pos h]
    by_cases h' : a ≤ c <;> simp [h', show b ≤ a from h]
  · rw [if_neg h, decide_eq_false (by omega)]
theorem spec_row_is (xs : List S29) (w : Int) (hn : xs.length ≤ 9223372036854775807) (r : Bool) (hr : r = true ↔ RowP xs w) : Ev (fun k => spec_l02Row.f k xs w) r := by
  refine all_loop xs.length (fun k i => spec_l02Row.l0 k xs w i) (fun j => okV (xs.getD j z29).f0 (xs.getD j z29).f1 (xs.getD j z29).f2.data.toList = true) ((xs.length : Int) = w) ?_ ?_ r (hr.trans ?_)
  · intro r hr
    refine Ev.step (fun k => rfl) (ev_if_neg (by omega) (ev_some fun _ => ?_))
    congr 1
    rw [Bool.eq_iff_iff, hr, beq_iff_eq]
  · intro i hi r next no
    refine Ev.step (fun k => rfl) (ev_if_pos (by omega) (ev_if_pos (by omega) (ev_bind0 (specValueOk_is _ _ _) ?_)))
    rw [wrap_succ hi hn]
    by_cases h : okV (xs.getD i z29).f0 (xs.getD i z29).f1 (xs.getD i z29).f2.data.toList = true
    · exact ev_if_pos h (next h)
    · exact ev_if_neg h (ev_conv (ev_some fun _ => rfl) (no h).symm)
  · unfold RowP
    rw [forall_getD z29 (p := fun x => okV x.f0 x.f1 x.f2.data.toList = true)]
theorem allO_eq {α : Type} {f : α → Option Bool} {g : α → Bool} : ∀ {xs : List α}, (∀ x ∈ xs, f x = some (g x)) → allO f xs = some (xs.all g)
  | [], _ => rfl
  | x :: xs, h => by
    rw [allO, h x (List.mem_cons_self ..), Option.bind_some, List.all_cons]
    cases g x with
    | false => rfl
    | true => rw [if_pos rfl, allO_eq fun y hy => h y (List.mem_cons_of_mem _ hy), Bool.true_and]
theorem allO_ev {α : Type} {f : Nat → α → Option Bool} {g : α → Bool} : ∀ {xs : List α}, (∀ x ∈ xs, Ev (fun k => f k x) (g x)) → Ev (fun k => allO (f k) xs) (xs.all g)
  | [], _ => ev_some fun _ => rfl
  | x :: xs, h => by
    refine Ev.bind (h x (List.mem_cons_self ..)) (f := fun k b => if b = true then allO (f k) xs else some false) ?_
    rw [List.all_cons]
    cases hg : g x with
    | false => exact ev_if_neg (by simp) (ev_some fun _ => rfl)
    | true => exact ev_if_pos rfl (ev_conv (allO_ev fun y hy => h y (List.mem_cons_of_mem _ hy)) (Bool.true_and _).symm)
theorem within_is (a b c : Int) : impl_within.f a b c = some (decide (b ≤ a ∧ a ≤ c)) := by
  unfold impl_within.f
  by_cases h : b ≤ a
  · rw [if_pos h]
    by_cases h' : a ≤ c <;> simp [h', h]
  · rw [if_neg h, decide_eq_false (by omega)]
theorem impl_row_is (xs : List S29) (w : Int) (r : Bool) (hr : r = true ↔ RowP xs w) : impl_isRow.f xs w = some r := by
  unfold impl_isRow.f
  by_cases h : (xs.length : Int) = w
  · rw [if_pos h, allO_eq (g := fun x => okV x.f0 x.f1 x.f2.data.toList) fun x _ => implValueOk_is _ _ _]
    congr 1
    rw [Bool.eq_iff_iff, hr, List.all_eq_true]
    exact ⟨fun g => ⟨g, h⟩, fun g => g.1⟩
  · rw [if_neg h]
    cases r with
    | false => rfl
    | true => exact absurd (hr.1 rfl).2 h
def CntP (w : Int) (xs : List S109) (j : Nat) : Prop :=
  RowP (xs.getD j z109).f0 w ∧ (xs.getD j z109).f1 ≠ 0 ∧ (-1000000000 ≤ (xs.getD j z109).f1 ∧ (xs.getD j z109).f1 ≤ 1000000000) ∧ (0 < j → cmpRow (xs.getD (j - 1) z109).f0 (xs.getD j z109).f0 < 0)
/-- A bag. -/
def BagP (w : Int) (xs : List S109) : Prop := (∀ j, j < xs.length → CntP w xs j) ∧ (0 ≤ w ∧ w ≤ 12) ∧ xs.length ≤ 400
open Classical in
theorem spec_bagOk_is (w : Int) (xs : List S109) (hn : xs.length ≤ 1048576) (hx : ∀ x ∈ xs, x.f0.length ≤ 1048576) (r : Bool) (hr : r = true ↔ BagP w xs) : Ev (fun k => spec_BagOk.f k w xs) r := by
  refine all_loop xs.length (fun k i => spec_BagOk.l0 k i w xs) (CntP w xs) ((0 ≤ w ∧ w ≤ 12) ∧ xs.length ≤ 400) ?_ ?_ r hr
  · intro r hr
    refine Ev.step (fun k => rfl) (ev_if_neg (by omega) (ev_some fun _ => ?_))
    rw [l01In_is, Option.bind_some]
    by_cases h : 0 ≤ w ∧ w ≤ 12
    · rw [if_pos (decide_eq_true h)]
      congr 1
      rw [Bool.eq_iff_iff, hr, decide_eq_true_eq]
      exact ⟨fun g => ⟨h, by omega⟩, fun g => by have := g.2; omega⟩
    · rw [if_neg (by simpa using h)]
      cases r with
      | false => rfl
      | true => exact absurd (hr.1 rfl).1 h
  · intro i hi r next no
    have len : ∀ j, j < xs.length → (xs.getD j z109).f0.length ≤ 9223372036854775807 := fun j hj => Nat.le_trans (hx _ (getD_mem _ hj)) (by omega)
    have stop : ¬ CntP w xs i → Ev (fun _ : Nat => some false) r := fun g => ev_conv (ev_some fun _ => rfl) (no g).symm
    refine Ev.step (fun k => rfl) (ev_if_pos (by omega) (ev_if_pos (by omega) (Ev.bind (spec_row_is (xs.getD i z109).f0 w (len i hi) (decide (RowP (xs.getD i z109).f0 w)) decide_eq_true_iff) ?_)))
    by_cases h1 : RowP (xs.getD i z109).f0 w
    case neg => exact ev_if_neg (by simpa using h1) (stop fun g => h1 g.1)
    refine ev_if_pos (decide_eq_true h1) ?_
    by_cases h2 : (xs.getD i z109).f1 = 0
    case pos => exact ev_if_pos h2 (stop fun g => g.2.1 h2)
    refine ev_if_neg h2 (ev_bind0 (l01In_is _ _ _) ?_)
    by_cases h3 : -1000000000 ≤ (xs.getD i z109).f1 ∧ (xs.getD i z109).f1 ≤ 1000000000
    case neg => exact ev_if_neg (by rw [decide_eq_true_eq]; exact h3) (stop fun g => h3 g.2.2.1)
    refine ev_if_pos (decide_eq_true h3) ?_
    rw [wrap_succ hi (by omega)]
    by_cases h4 : 0 < i
    case neg => exact ev_if_neg (by omega) (next ⟨h1, h2, h3, fun g => absurd g h4⟩)
    rw [wrap_pred h4 (by omega)]
    refine ev_if_pos (by omega) (ev_if_pos (by omega) (ev_if_pos (by omega) (Ev.bind (specCompareRow_is (xs.getD (i - 1) z109).f0 (xs.getD i z109).f0 (len (i - 1) (by omega))) ?_)))
    by_cases h5 : cmpRow (xs.getD (i - 1) z109).f0 (xs.getD i z109).f0 ≥ 0
    · exact ev_if_pos h5 (stop fun g => by have := g.2.2.2 h4; omega)
    · exact ev_if_neg h5 (next ⟨h1, h2, h3, fun _ => by omega⟩)
open Classical in
theorem impl_bagOk_is (w : Int) (xs : List S109) (hn : xs.length ≤ 1048576) (r : Bool) (hr : r = true ↔ BagP w xs) : Ev (fun k => impl_BagOk.f k w xs) r := by
  unfold impl_BagOk.f
  rw [within_is]
  refine Ev.congr (fun k => Option.bind_some _ _) ?_
  have no : ¬ BagP w xs → r = false := fun h => by
    cases r with
    | false => rfl
    | true => exact absurd (hr.1 rfl) h
  by_cases hw : 0 ≤ w ∧ w ≤ 12
  case neg => exact ev_if_neg (by rw [decide_eq_true_eq]; exact hw) (Ev.step (fun k => rfl) (ev_conv (ev_some fun _ => rfl) (no fun g => hw g.2.1).symm))
  refine ev_if_pos (decide_eq_true hw) ?_
  by_cases hl : (xs.length : Int) > 400
  case pos => exact Ev.step (fun k => rfl) (ev_if_pos (decide_eq_true hl) (ev_conv (ev_some fun _ => rfl) (no fun g => by have := g.2.2; omega).symm))
  refine Ev.step (fun k => rfl) (ev_if_neg (by rw [decide_eq_true_eq]; exact hl) ?_)
  refine all_loop xs.length (fun k i => impl_BagOk.l0 k xs (xs.length : Int) i w xs) (CntP w xs) True ?_ ?_ r (hr.trans ⟨fun g => ⟨g.1, trivial⟩, fun g => ⟨g.1, hw, by omega⟩⟩)
  · intro r hr
    exact Ev.step (fun k => rfl) (ev_if_neg (by omega) (ev_conv (ev_some fun _ => rfl) (hr.2 trivial).symm))
  · intro i hi r next no
    have stop : ¬ CntP w xs i → Ev (fun _ : Nat => some false) r := fun g => ev_conv (ev_some fun _ => rfl) (no g).symm
    refine Ev.step (fun k => rfl) (ev_if_pos (by omega) (ev_if_pos (by omega) (ev_if_pos (by omega) (ev_bind0 (impl_row_is (xs.getD i z109).f0 w (decide (RowP (xs.getD i z109).f0 w)) decide_eq_true_iff) ?_))))
    by_cases h1 : RowP (xs.getD i z109).f0 w
    case neg => exact ev_if_neg (by simpa using h1) (stop fun g => h1 g.1)
    refine ev_if_pos (decide_eq_true h1) ?_
    by_cases h2 : (xs.getD i z109).f1 = 0
    case pos => exact ev_if_pos h2 (stop fun g => g.2.1 h2)
    refine ev_if_neg h2 (ev_bind0 (within_is _ _ _) ?_)
    by_cases h3 : -1000000000 ≤ (xs.getD i z109).f1 ∧ (xs.getD i z109).f1 ≤ 1000000000
    case neg => exact ev_if_neg (by rw [decide_eq_true_eq]; exact h3) (stop fun g => h3 g.2.2.1)
    refine ev_if_pos (decide_eq_true h3) ?_
    rw [wrap_succ hi (by omega)]
    by_cases h4 : 0 < i
    case neg => exact ev_if_neg (by omega) (next ⟨h1, h2, h3, fun g => absurd g h4⟩)
    rw [wrap_pred h4 (by omega)]
    refine ev_if_pos (by omega) (ev_if_pos (by omega) (ev_if_pos (by omega) (Ev.bind (implCompareRow_is (xs.getD (i - 1) z109).f0 (xs.getD i z109).f0) ?_)))
    by_cases h5 : cmpRow (xs.getD (i - 1) z109).f0 (xs.getD i z109).f0 ≥ 0
    · exact ev_if_pos h5 (stop fun g => by have := g.2.2.2 h4; omega)
    · exact ev_if_neg h5 (next ⟨h1, h2, h3, fun _ => by omega⟩)
/-! #### decimal numerals -/
theorem digit_cut (d : Nat) (hd : d < 10) : (⟨#[48, 49, 50, 51, 52, 53, 54, 55, 56, 57]⟩ : ByteArray).extract d (d + 1) = mkB [UInt8.ofNat (48 + d)] := by
  have : d = 0 ∨ d = 1 ∨ d = 2 ∨ d = 3 ∨ d = 4 ∨ d = 5 ∨ d = 6 ∨ d = 7 ∨ d = 8 ∨ d = 9 := by omega
  rcases this with rfl | rfl | rfl | rfl | rfl | rfl | rfl | rfl | rfl | rfl <;> rfl
theorem decDigits_pos {u : Nat} (h : 0 < u) : Lib.decDigits u = (if u / 10 = 0 then [] else Lib.decDigits (u / 10)) ++ [UInt8.ofNat (48 + u % 10)] := by
  by_cases h10 : u < 10
  · rw [Lib.decDigits, dif_pos h10, if_pos (by omega), Nat.mod_eq_of_lt h10]
    rfl
  · rw [Lib.decDigits, dif_neg h10, if_neg (by omega)]
theorem decDigits_len (u : Nat) : (Lib.decDigits u).length ≤ u + 1 := by
  induction u using Nat.strongRecOn with
  | _ u ih =>
    by_cases h10 : u < 10
    · rw [Lib.decDigits, dif_pos h10]
      simp
    · rw [Lib.decDigits, dif_neg h10]
      have := ih (u / 10) (by omega)
      simp
      omega
/-- The digits of a number that is not 0, laid ahead of a text. -/
theorem decLoop_is (a0 : Int) (h0 : -9223372036854775808 ≤ a0) (h1 : a0 ≤ 9223372036854775807) : ∀ (n : Nat) (m : Int) (acc : List UInt8), m.natAbs = n → n ≤ 9223372036854775808 → (m < 0 → a0 < 0) → -9223372036854775808 ≤ m → m ≤ 9223372036854775807 → acc.length + n ≤ 9223372036854775900 →
    (acc.length ≤ 100) → (∀ j, n / 10 ^ j ≠ 0 → acc.length + j < 30) →
    Ev (fun k => spec_DecText.l0 k a0 (mkB acc) m) (mkB ((if a0 < 0 then [45] else []) ++ ((if n = 0 then [] else Lib.decDigits n) ++ acc))) := by
  intro n
  induction n using Nat.strongRecOn with
  | _ n ih =>
    intro m acc hm hn hneg l0 l1 hl hl2 hj
    by_cases z : m = 0
    · have hn0 : n = 0 := by omega
      refine Ev.step (fun k => rfl) (ev_if_pos z ?_)
      rw [if_pos hn0]
      by_cases ha : a0 < 0
      · refine ev_if_pos ha (ev_if_pos (by rw [mkB_size]; omega) (ev_conv (ev_some fun _ => rfl) ?_))
        rw [if_pos ha]
        exact mkB_append [45] acc
      · exact ev_if_neg ha (ev_conv (ev_some fun _ => rfl) (by rw [if_neg ha]; rfl))
    · have hn0 : 0 < n := by omega
      have hj0 := hj 0 (by simp; omega)
      have hd : n % 10 < 10 := Nat.mod_lt _ (by omega)
      have rest : Ev (fun k => spec_DecText.l0 k a0 (mkB (UInt8.ofNat (48 + n % 10) :: acc)) (wrap64 (Int.tdiv m 10))) (mkB ((if a0 < 0 then [45] else []) ++ ((if n = 0 then [] else Lib.decDigits n) ++ acc))) := by
        have hq : (Int.tdiv m 10).natAbs = n / 10 := by rw [Int.natAbs_tdiv, hm]; rfl
        have hb : -9223372036854775808 ≤ Int.tdiv m 10 ∧ Int.tdiv m 10 ≤ 9223372036854775807 := by omega
        rw [wrap_id hb.1 hb.2]
        have hs : Int.tdiv m 10 < 0 → m < 0 := by
          intro h
          rcases Int.lt_or_le m 0 with g | g
          · exact g
          · have := Int.tdiv_nonneg g (show (0 : Int) ≤ 10 by decide)
            omega
        refine ev_conv (ih (n / 10) (by omega) (Int.tdiv m 10) (UInt8.ofNat (48 + n % 10) :: acc) hq (by omega) (fun h => hneg (hs h)) hb.1 hb.2 (by simp; omega) (by simp; omega) (fun j h => ?_)) ?_
        · have := hj (j + 1) (by rwa [Nat.pow_succ, Nat.mul_comm, ← Nat.div_div_eq_div_mul])
          simp
          omega
        · rw [if_neg (show ¬ n = 0 by omega), decDigits_pos hn0]
          simp
      have cut : ∀ (d : Int), d = ((n % 10 : Nat) : Int) → ((⟨#[48, 49, 50, 51, 52, 53, 54, 55, 56, 57]⟩ : ByteArray).extract d.toNat (wrap64 (d + 1)).toNat) ++ mkB acc = mkB (UInt8.ofNat (48 + n % 10) :: acc) ∧ ((⟨#[48, 49, 50, 51, 52, 53, 54, 55, 56, 57]⟩ : ByteArray).extract d.toNat (wrap64 (d + 1)).toNat).size + (mkB acc).size ≤ 9223372036854775807 := by
        intro d hd'
        rw [wrap_id (x := d + 1) (by omega) (by omega), show d.toNat = n % 10 by omega, show (d + 1).toNat = n % 10 + 1 by omega, digit_cut _ hd, mkB_append, mkB_size, mkB_size]
        exact ⟨rfl, by simp; omega⟩
      refine Ev.step (fun k => rfl) (ev_if_neg z ?_)
      have ht : (Int.tmod m 10).natAbs = n % 10 := by rw [Int.natAbs_tmod, hm]; rfl
      by_cases s : Int.tmod m 10 < 0
      · have e : wrap64 (-(Int.tmod m 10)) = ((n % 10 : Nat) : Int) := by rw [wrap_id (by omega) (by omega)]; omega
        obtain ⟨c1, c2⟩ := cut _ e
        refine ev_if_pos s (ev_if_pos (by omega) (ev_if_pos (by rw [wrap_id (x := wrap64 (-(Int.tmod m 10)) + 1) (by omega) (by omega)]; omega) (ev_if_pos (by rw [wrap_id (x := wrap64 (-(Int.tmod m 10)) + 1) (by omega) (by omega)]; omega) (ev_if_pos c2 ?_))))
        rw [c1]
        exact rest
      · have e : Int.tmod m 10 = ((n % 10 : Nat) : Int) := by omega
        obtain ⟨c1, c2⟩ := cut _ e
        refine ev_if_neg s (ev_if_pos (by omega) (ev_if_pos (by rw [wrap_id (x := Int.tmod m 10 + 1) (by omega) (by omega)]; omega) (ev_if_pos (by rw [wrap_id (x := Int.tmod m 10 + 1) (by omega) (by omega)]; omega) (ev_if_pos c2 ?_))))
        rw [c1]
        exact rest
theorem specDecText_is (a0 : Int) (h0 : -9223372036854775808 ≤ a0) (h1 : a0 ≤ 9223372036854775807) : Ev (fun k => spec_DecText.f k a0) (mkB (Lib.itoa a0)) := by
  by_cases z : a0 = 0
  · refine ev_if_pos z (ev_conv (ev_some fun _ => rfl) ?_)
    subst z
    rw [Lib.itoa, if_neg (by decide), Lib.decDigits, dif_pos (by decide)]
    rfl
  · refine ev_if_neg z (ev_conv (decLoop_is a0 h0 h1 a0.natAbs a0 [] rfl (by omega) (fun h => h) h0 h1 (by simp; omega) (by simp) (fun j h => ?_)) ?_)
    · have hlt : 10 ^ j ≤ a0.natAbs := by
        rcases Nat.lt_or_ge a0.natAbs (10 ^ j) with g | g
        · exact absurd (Nat.div_eq_of_lt g) h
        · exact g
      simp
      rcases Nat.lt_or_ge j 30 with g | g
      · exact g
      · have := Nat.pow_le_pow_right (show 0 < 10 by decide) g
        have e : (10 : Nat) ^ 30 = 1000000000000000000000000000000 := by decide
        omega
    · rw [if_neg (show ¬ a0.natAbs = 0 by omega), List.append_nil, Lib.itoa]
      by_cases s : a0 < 0
      · rw [if_pos s, if_pos s]
        rfl
      · rw [if_neg s, if_neg s, show a0.toNat = a0.natAbs by omega]
        rfl
theorem decDigits_len10 : ∀ (k u : Nat), u < 10 ^ (k + 1) → (Lib.decDigits u).length ≤ k + 1
  | k, u, h => by
    by_cases h10 : u < 10
    · rw [Lib.decDigits, dif_pos h10]
      simp
    · rw [Lib.decDigits, dif_neg h10]
      cases k with
      | zero => omega
      | succ k =>
        have := decDigits_len10 k (u / 10) (by rw [Nat.pow_succ] at h; omega)
        simp
        omega
theorem itoa_len {b : Int} (h0 : -9223372036854775808 ≤ b) (h1 : b ≤ 9223372036854775807) : (Lib.itoa b).length ≤ 21 := by
  have e : (10 : Nat) ^ (19 + 1) = 100000000000000000000 := by decide
  rw [Lib.itoa]
  by_cases s : b < 0
  · rw [if_pos s]
    have := decDigits_len10 19 b.natAbs (by omega)
    simp
    omega
  · rw [if_neg s]
    have := decDigits_len10 19 b.toNat (by omega)
    omega
theorem implDecText_is (a0 : Int) (h0 : -9223372036854775808 ≤ a0) (h1 : a0 ≤ 9223372036854775807) : impl_DecText.f a0 = some (mkB (Lib.itoa a0)) := by
  unfold impl_DecText.f strconv_Itoa.f
  rw [if_pos h0, if_pos h1]
  rfl
/-! #### a text in quotes -/
/-- Each quote is written twice. -/
def dbl (l : List UInt8) : List UInt8 := l.flatMap fun b => if b = 39 then [39, 39] else [b]
theorem dbl_nil : dbl [] = [] := rfl
theorem dbl_cons (b : UInt8) (l : List UInt8) : dbl (b :: l) = (if b = 39 then [39, 39] else [b]) ++ dbl l := by simp [dbl]
theorem dbl_len (l : List UInt8) : (dbl l).length ≤ 2 * l.length := by
  induction l with
  | nil => exact Nat.le_refl _
  | cons b l ih =>
    rw [dbl_cons, List.length_append, List.length_cons]
    by_cases h : b = 39
    · rw [if_pos h]
      simp
      omega
    · rw [if_neg h]
      simp
      omega
theorem cut_one (s : ByteArray) (i : Nat) (h : i < s.data.toList.length) : s.extract i (i + 1) = mkB [s.data.toList.getD i 0] := by
  rw [extract_mk, drop_cons_getD 0 h, show i + 1 - i = 1 by omega]
  rfl
theorem quoteLoop_is (s : ByteArray) (hs : s.data.toList.length ≤ 1000000000000) : ∀ (n i : Nat) (acc : List UInt8), s.data.toList.length - i = n → i ≤ s.data.toList.length → acc.length ≤ 2 * i + 1 → Ev (fun k => spec_l01Quote.l0 k s (mkB acc) i) (mkB (acc ++ (dbl (s.data.toList.drop i) ++ [39]))) := by
  have hz := size_data s
  intro n
  induction n with
  | zero =>
    intro i acc h1 h2 h3
    have e : i = s.data.toList.length := by omega
    refine Ev.step (fun k => rfl) (ev_if_neg (by omega) (ev_if_pos (by rw [mkB_size]; omega) (ev_conv (ev_some fun _ => rfl) ?_)))
    rw [e, List.drop_length, dbl_nil]
    exact mkB_append acc [39]
  | succ n ih =>
    intro i acc h1 h2 h3
    have hi : i < s.data.toList.length := by omega
    have hw : wrap64 ((i : Int) + 1) = ((i + 1 : Nat) : Int) := wrap_succ hi (by omega)
    have hc : s.extract (i : Int).toNat (wrap64 ((i : Int) + 1)).toNat = mkB [s.data.toList.getD i 0] := by
      rw [hw]
      exact cut_one s i hi
    have hb : bt s i = ((s.data.toList.getD i 0).toNat : Int) := bt_data s i
    refine Ev.step (fun k => rfl) (ev_if_pos (by omega) (ev_if_pos (by omega) (ev_if_pos (by rw [hw]; omega) (ev_if_pos (by rw [hw]; omega) ?_))))
    rw [hc, hb, drop_cons_getD 0 hi, dbl_cons]
    generalize s.data.toList.getD i 0 = c
    refine ev_if_pos (by rw [mkB_size, mkB_size, List.length_singleton]; omega) ?_
    rw [mkB_append]
    by_cases h : c = 39
    · refine ev_if_pos (by rw [h]; rfl) (ev_if_pos (by rw [mkB_size, List.length_append, List.length_singleton]; omega) ?_)
      rw [show (⟨#[39]⟩ : ByteArray) = mkB [39] from rfl, mkB_append, hw]
      refine ev_conv (ih (i + 1) _ (by omega) (by omega) (by simp; omega)) ?_
      rw [if_pos h, h]
      simp
    · refine ev_if_neg (fun g => h (UInt8.toNat.inj (by rw [show (39 : UInt8).toNat = 39 from rfl]; omega))) ?_
      rw [hw]
      refine ev_conv (ih (i + 1) _ (by omega) (by omega) (by simp; omega)) ?_
      rw [if_neg h]
      simp
theorem specQuote_is (s : ByteArray) (hs : s.data.toList.length ≤ 1000000000000) : Ev (fun k => spec_l01Quote.f k s) (mkB (39 :: (dbl s.data.toList ++ [39]))) :=
  quoteLoop_is s hs _ 0 [39] rfl (Nat.zero_le _) (Nat.le_refl _)
theorem replaceK_miss {old new : List UInt8} {k : Nat} {s : List UInt8} (h : Lib.index s old = -1) : Lib.replaceK old new k s = s := by
  cases k with
  | zero => rfl
  | succ k => rw [Lib.replaceK, if_pos (by rw [h]; rfl)]
theorem replaceK_dbl : ∀ (l : List UInt8) (k : Nat), l.count 39 ≤ k → Lib.replaceK [39] [39, 39] k l = dbl l
  | [], k, _ => by rw [replaceK_miss (by rfl)]; rfl
  | b :: l, k, hk => by
    rw [dbl_cons]
    by_cases h : b = 39
    · subst h
      rw [if_pos rfl]
      rw [List.count_cons_self] at hk
      cases k with
      | zero => omega
      | succ k =>
        rw [Lib.replaceK_hit [39] [39, 39] k (39 :: l) 0 (by rfl)]
        rw [show (39 :: l).drop (0 + [(39 : UInt8)].length) = l from rfl, replaceK_dbl l k (by omega)]
        rfl
    · rw [if_neg h]
      rw [List.count_cons_of_ne (fun g => h (by simpa using g))] at hk
      have ih := replaceK_dbl l k hk
      have hp : ([39] : List UInt8).isPrefixOf (b :: l) = false := by
        simp [List.isPrefixOf]
        exact fun g => h g.symm
      have hx : Lib.index (b :: l) [39] = if Lib.index l [39] == -1 then -1 else Lib.index l [39] + 1 := by
        rw [Lib.index, hp]
        rfl
      rw [← ih]
      cases k with
      | zero => rfl
      | succ k =>
        by_cases hm : Lib.index l [39] = -1
        · rw [replaceK_miss hm, replaceK_miss (by rw [hx, hm]; rfl)]
          rfl
        · have hge := Lib.index_ge l [39]
          obtain ⟨i, hi⟩ : ∃ i : Nat, Lib.index l [39] = i := ⟨(Lib.index l [39]).toNat, by omega⟩
          rw [Lib.replaceK_hit [39] [39, 39] k l i hi, Lib.replaceK_hit [39] [39, 39] k (b :: l) (i + 1) (by rw [hx, hi, if_neg (by intro g; have := beq_iff_eq.1 g; omega)]; rfl)]
          rw [show i + 1 + [(39 : UInt8)].length = (i + [(39 : UInt8)].length) + 1 by omega, List.drop_succ_cons, List.take_succ_cons]
          rfl
theorem replaceAll_dbl (l : List UInt8) : Lib.replaceAll l [39] [39, 39] = dbl l := by
  unfold Lib.replaceAll Lib.replace Lib.replaceNum
  rw [if_neg (by decide), if_pos (Or.inl (by decide)), Lib.count_one]
  exact replaceK_dbl l _ (Nat.le_refl _)
theorem replaceAll_is (s : ByteArray) (hs : s.data.toList.length ≤ 1000000) : strings_ReplaceAll.f s ⟨#[39]⟩ ⟨#[39, 39]⟩ = some (mkB (dbl s.data.toList)) := by
  have hz := size_data s
  unfold strings_ReplaceAll.f
  have h1 : 1 ≤ (⟨#[39]⟩ : ByteArray).size := Nat.le_refl 1
  have hc : Lib.countB s ⟨#[39]⟩ ≤ s.size := Lib.countB_le ⟨#[39]⟩ h1 s.size s (Nat.le_refl _)
  have h2 : (⟨#[39, 39]⟩ : ByteArray).size = 2 := rfl
  rw [if_pos ⟨by omega, h1, by rw [h2]; omega⟩]
  exact congrArg some (congrArg mkB (replaceAll_dbl s.data.toList))
/-- The text of a value. -/
def vtext (a b : Int) (s : List UInt8) : List UInt8 := if okV a b s then (if a = 0 then [110, 117, 108, 108] else if a = 1 then Lib.itoa b else if a = 3 then 39 :: (dbl s ++ [39]) else if b = 1 then [116, 114, 117, 101] else [102, 97, 108, 115, 101]) else []
theorem okV_kinds {a b : Int} {s : List UInt8} (h : okV a b s = true) : a = 0 ∨ a = 1 ∨ a = 2 ∨ (a = 3 ∧ s.length ≤ 100) := by
  unfold okV at h
  by_cases h0 : a = 0
  · exact Or.inl h0
  by_cases h1 : a = 1
  · exact Or.inr (Or.inl h1)
  by_cases h2 : a = 2
  · exact Or.inr (Or.inr (Or.inl h2))
  rw [if_neg h0, if_neg h1, if_neg h2] at h
  by_cases h3 : a = 3
  · rw [if_pos h3, Bool.and_eq_true] at h
    exact Or.inr (Or.inr (Or.inr ⟨h3, of_decide_eq_true h.2⟩))
  · rw [if_neg h3] at h
    cases h
theorem specValueText_is (a b : Int) (s : ByteArray) (h0 : -9223372036854775808 ≤ b) (h1 : b ≤ 9223372036854775807) : Ev (fun k => spec_ValueText.f k a b s) (mkB (vtext a b s.data.toList)) := by
  refine ev_bind0 (specValueOk_is a b s) ?_
  unfold vtext
  by_cases ok : okV a b s.data.toList = true
  · have hk := okV_kinds ok
    refine ev_if_pos ok ?_
    rw [if_pos ok]
    by_cases k0 : a = 0
    · refine ev_if_pos k0 (ev_conv (ev_some fun _ => rfl) ?_)
      rw [if_pos k0]
      rfl
    rw [if_neg k0]
    refine ev_if_neg k0 ?_
    by_cases k1 : a = 1
    · rw [if_pos k1]
      exact ev_if_pos k1 (Ev.bind (specDecText_is b h0 h1) (ev_some fun _ => rfl))
    rw [if_neg k1]
    refine ev_if_neg k1 ?_
    by_cases k3 : a = 3
    · rw [if_pos k3]
      exact ev_if_pos k3 (Ev.bind (specQuote_is s (by omega)) (ev_some fun _ => rfl))
    rw [if_neg k3]
    refine ev_if_neg k3 ?_
    by_cases n1 : b = 1
    · exact ev_if_pos n1 (ev_conv (ev_some fun _ => rfl) (by rw [if_pos n1]; rfl))
    · exact ev_if_neg n1 (ev_conv (ev_some fun _ => rfl) (by rw [if_neg n1]; rfl))
  · rw [if_neg ok]
    exact ev_if_neg ok (ev_some fun _ => rfl)
theorem implValueText_is (a b : Int) (s : ByteArray) (h0 : -9223372036854775808 ≤ b) (h1 : b ≤ 9223372036854775807) : impl_ValueText.f a b s = some (mkB (vtext a b s.data.toList)) := by
  unfold impl_ValueText.f
  rw [implValueOk_is, Option.bind_some]
  unfold vtext
  by_cases ok : okV a b s.data.toList = true
  · have hk := okV_kinds ok
    rw [if_pos ok, if_pos ok]
    by_cases k0 : a = 0
    · rw [if_pos k0, if_pos k0]
      rfl
    rw [if_neg k0, if_neg k0]
    by_cases k1 : a = 1
    · rw [if_pos k1, if_pos k1, implDecText_is b h0 h1]
      rfl
    rw [if_neg k1, if_neg k1]
    by_cases k2 : a = 2
    · rw [if_pos k2, if_neg (show ¬ a = 3 by omega)]
      by_cases n1 : b = 1
      · subst n1
        rfl
      · rw [if_neg n1, show (b == 1) = false from beq_eq_false_iff_ne.2 n1]
        rfl
    have k3 : a = 3 ∧ s.data.toList.length ≤ 100 := by omega
    have hd := dbl_len s.data.toList
    rw [if_neg k2, if_pos k3.1, replaceAll_is s (by omega), Option.bind_some, if_pos (by rw [mkB_size]; omega), show (⟨#[39]⟩ : ByteArray) = mkB [39] from rfl, mkB_append, if_pos (by rw [mkB_size]; simp; omega), mkB_append]
    simp
  · rw [if_neg ok, if_neg ok]
    rfl
theorem vtext_len (a b : Int) (s : List UInt8) (h0 : -9223372036854775808 ≤ b) (h1 : b ≤ 9223372036854775807) : (vtext a b s).length ≤ 300 := by
  unfold vtext
  by_cases ok : okV a b s = true
  · have hk := okV_kinds ok
    have hi := itoa_len h0 h1
    have hd := dbl_len s
    rw [if_pos ok]
    by_cases k0 : a = 0
    · rw [if_pos k0]
      simp
    rw [if_neg k0]
    by_cases k1 : a = 1
    · rw [if_pos k1]
      omega
    rw [if_neg k1]
    by_cases k3 : a = 3
    · rw [if_pos k3]
      simp
      omega
    rw [if_neg k3]
    by_cases n1 : b = 1
    · rw [if_pos n1]
      simp
    · rw [if_neg n1]
      simp
  · rw [if_neg ok]
    simp
/-! #### texts joined -/
theorem join_snoc (xs : List (List UInt8)) (x sep : List UInt8) : Lib.join (xs ++ [x]) sep = (if xs = [] then [] else Lib.join xs sep ++ sep) ++ x := by
  cases xs with
  | nil => rw [if_pos rfl, List.nil_append, List.nil_append, Lib.join_one]
  | cons y r =>
    rw [if_neg (by simp), List.cons_append, Lib.join_cons, Lib.join_cons]
    simp [Lib.joinTail]
theorem join_le : ∀ (xs : List (List UInt8)), (Lib.join xs [44, 32]).length ≤ (xs.map fun y => y.length + 2).sum := by
  refine snoc_ind ?_ ?_
  · simp [Lib.join_nil]
  · intro l a h
    rw [join_snoc, List.map_append, List.sum_append]
    by_cases e : l = []
    · rw [if_pos e]
      simp
      omega
    · rw [if_neg e]
      simp only [List.length_append, List.length_cons, List.length_nil, List.map_cons, List.map_nil, List.sum_cons, List.sum_nil]
      omega
theorem sum_take_le {α : Type} (f : α → Nat) (l : List α) (i : Nat) : ((l.take i).map f).sum ≤ (l.map f).sum := by
  conv => rhs; rw [← List.take_append_drop i l]
  rw [List.map_append, List.sum_append]
  omega
theorem take_snoc {α : Type} (d : α) {l : List α} {i : Nat} (h : i < l.length) : l.take (i + 1) = l.take i ++ [l.getD i d] := by
  rw [List.take_add_one, List.getElem?_eq_getElem h, List.getD_eq_getElem?_getD, List.getElem?_eq_getElem h]
  rfl
theorem join_take {α : Type} (d : α) (tx : α → List UInt8) {xs : List α} {i : Nat} (h : i < xs.length) : Lib.join ((xs.take (i + 1)).map tx) [44, 32] = (if i = 0 then [] else Lib.join ((xs.take i).map tx) [44, 32] ++ [44, 32]) ++ tx (xs.getD i d) := by
  rw [take_snoc d h, List.map_append, List.map_cons, List.map_nil, join_snoc]
  congr 1
  by_cases e : i = 0
  · rw [if_pos e, if_pos (by rw [e]; rfl)]
  · rw [if_neg e, if_neg (fun g => ?_)]
    have := congrArg List.length (List.map_eq_nil_iff.1 g)
    rw [List.length_take, List.length_nil] at this
    omega
/-- The reference's loop: a separator ahead of each but the first. -/
theorem join_loop {α β : Type} (d : α) (L : Nat → ByteArray → Int → Option β) (E : Nat → α → Option ByteArray) (F : Nat → ByteArray → Option β) (tx : α → List UInt8) (xs : List α) (pre : List UInt8) (r : β)
    (hL : ∀ k acc i, L (k + 1) acc i = if i < (xs.length : Int) then (if i > 0 then (if acc.size + 2 ≤ 9223372036854775807 then (if 0 ≤ i then ((E k (xs.getD i.toNat d)).bind fun t => if (acc ++ (⟨#[44, 32]⟩ : ByteArray)).size + t.size ≤ 9223372036854775807 then L k ((acc ++ (⟨#[44, 32]⟩ : ByteArray)) ++ t) (wrap64 (i + 1)) else none) else none) else none) else (if 0 ≤ i then ((E k (xs.getD i.toNat d)).bind fun t => if acc.size + t.size ≤ 9223372036854775807 then L k (acc ++ t) (wrap64 (i + 1)) else none) else none)) else F k acc)
    (hn : xs.length ≤ 1048576) (hE : ∀ x ∈ xs, Ev (fun k => E k x) (mkB (tx x))) (hb : pre.length + (xs.map fun x => (tx x).length + 2).sum ≤ 2305843009213693952)
    (hF : Ev (fun k => F k (mkB (pre ++ Lib.join (xs.map tx) [44, 32]))) r) :
    ∀ (n i : Nat), xs.length - i = n → i ≤ xs.length → Ev (fun k => L k (mkB (pre ++ Lib.join ((xs.take i).map tx) [44, 32])) i) r := by
  have hlen : ∀ i, (Lib.join ((xs.take i).map tx) [44, 32]).length ≤ (xs.map fun x => (tx x).length + 2).sum := fun i => by
    refine Nat.le_trans (join_le _) ?_
    rw [List.map_map]
    exact sum_take_le (fun x => (tx x).length + 2) xs i
  intro n
  induction n with
  | zero =>
    intro i h1 h2
    refine Ev.step (fun k => hL k _ _) (ev_if_neg (by omega) ?_)
    rw [List.take_of_length_le (by omega)]
    exact hF
  | succ n ih =>
    intro i h1 h2
    have hi : i < xs.length := by omega
    have hs := ih (i + 1) (by omega) (by omega)
    have hx : (tx (xs.getD i d)).length + 2 ≤ (xs.map fun x => (tx x).length + 2).sum := sum_le_of_mem0 (fun x => (tx x).length + 2) (getD_mem d hi)
    have hl := hlen i
    rw [join_take d tx hi] at hs
    have hw : wrap64 ((i : Int) + 1) = ((i + 1 : Nat) : Int) := wrap_succ hi (by omega)
    refine Ev.step (fun k => hL k _ _) (ev_if_pos (by omega) ?_)
    rw [Int.toNat_natCast, hw]
    by_cases e : i = 0
    · rw [if_pos e] at hs
      refine ev_if_neg (by omega) (ev_if_pos (by omega) (Ev.bind (hE _ (getD_mem d hi)) (ev_if_pos (by rw [mkB_size, mkB_size, List.length_append]; omega) ?_)))
      rw [mkB_append, e]
      rw [e] at hs
      simpa [Lib.join_nil] using hs
    · rw [if_neg e] at hs
      refine ev_if_pos (by omega) (ev_if_pos (by rw [mkB_size, List.length_append]; omega) (ev_if_pos (by omega) (Ev.bind (hE _ (getD_mem d hi)) ?_)))
      rw [show (⟨#[44, 32]⟩ : ByteArray) = mkB [44, 32] from rfl, mkB_append]
      refine ev_if_pos (by simp only [mkB_size, List.length_append, List.length_cons, List.length_nil]; omega) ?_
      rw [mkB_append]
      simpa using hs
/-- The program's loop: a word for each. -/
theorem words_loop {α β : Type} (d : α) (L : Nat → List ByteArray → Int → Option β) (E : Nat → α → Option ByteArray) (F : Nat → List ByteArray → Option β) (tx : α → List UInt8) (xs : List α) (r : β)
    (hL : ∀ k ws i, L (k + 1) ws i = if i < (xs.length : Int) then (if 0 ≤ i then (if i < (xs.length : Int) then ((E k (xs.getD i.toNat d)).bind fun t => if ws.length < 8796093022208 then L k (ws ++ [t]) (wrap64 (i + 1)) else none) else none) else none) else F k ws)
    (hn : xs.length ≤ 1048576) (hE : ∀ x ∈ xs, Ev (fun k => E k x) (mkB (tx x))) (hF : Ev (fun k => F k (xs.map fun x => mkB (tx x))) r) :
    ∀ (n i : Nat), xs.length - i = n → i ≤ xs.length → Ev (fun k => L k ((xs.take i).map fun x => mkB (tx x)) i) r := by
  intro n
  induction n with
  | zero =>
    intro i h1 h2
    refine Ev.step (fun k => hL k _ _) (ev_if_neg (by omega) ?_)
    rw [List.take_of_length_le (by omega)]
    exact hF
  | succ n ih =>
    intro i h1 h2
    have hi : i < xs.length := by omega
    refine Ev.step (fun k => hL k _ _) (ev_if_pos (by omega) (ev_if_pos (by omega) (ev_if_pos (by omega) ?_)))
    rw [Int.toNat_natCast, wrap_succ hi (by omega)]
    refine Ev.bind (hE _ (getD_mem d hi)) (ev_if_pos (by rw [List.length_map, List.length_take]; omega) ?_)
    have hs := ih (i + 1) (by omega) (by omega)
    rw [take_snoc d hi, List.map_append] at hs
    exact hs
theorem join_is {α : Type} (tx : α → List UInt8) (xs : List α) (hn : xs.length ≤ 1048576) (hb : (xs.map fun x => (tx x).length + 2).sum ≤ 140737488355328) : strings_Join.f (xs.map fun x => mkB (tx x)) ⟨#[44, 32]⟩ = some (mkB (Lib.join (xs.map tx) [44, 32])) := by
  unfold strings_Join.f
  have e : (xs.map fun x => mkB (tx x)).map (fun b : ByteArray => b.data.toList) = xs.map tx := by rw [List.map_map]; rfl
  have hl := join_le (xs.map tx)
  rw [List.map_map] at hl
  rw [e, show (⟨#[44, 32]⟩ : ByteArray).data.toList = [44, 32] from rfl, if_pos ⟨Nat.le_trans hl hb, by rw [List.length_map]; omega⟩]
  rfl
/-! #### the text of a bag -/
theorem join_le1 : ∀ (xs : List (List UInt8)), (Lib.join xs [44]).length ≤ (xs.map fun y => y.length + 2).sum := by
  refine snoc_ind ?_ ?_
  · simp [Lib.join_nil]
  · intro l a h
    rw [join_snoc, List.map_append, List.sum_append]
    by_cases e : l = []
    · rw [if_pos e]
      simp
      omega
    · rw [if_neg e]
      simp only [List.length_append, List.length_cons, List.length_nil, List.map_cons, List.map_nil, List.sum_cons, List.sum_nil]
      omega
theorem join_take1 {α : Type} (d : α) (tx : α → List UInt8) {xs : List α} {i : Nat} (h : i < xs.length) : Lib.join ((xs.take (i + 1)).map tx) [44] = (if i = 0 then [] else Lib.join ((xs.take i).map tx) [44] ++ [44]) ++ tx (xs.getD i d) := by
  rw [take_snoc d h, List.map_append, List.map_cons, List.map_nil, join_snoc]
  congr 1
  by_cases e : i = 0
  · rw [if_pos e, if_pos (by rw [e]; rfl)]
  · rw [if_neg e, if_neg (fun g => ?_)]
    have := congrArg List.length (List.map_eq_nil_iff.1 g)
    rw [List.length_take, List.length_nil] at this
    omega
/-- The reference's loop: a separator ahead of each but the first. -/
theorem join_loop1 {α β : Type} (d : α) (L : Nat → ByteArray → Int → Option β) (E : Nat → α → Option ByteArray) (F : Nat → ByteArray → Option β) (tx : α → List UInt8) (xs : List α) (pre : List UInt8) (r : β)
    (hL : ∀ k acc i, L (k + 1) acc i = if i < (xs.length : Int) then (if i > 0 then (if acc.size + 1 ≤ 9223372036854775807 then (if 0 ≤ i then ((E k (xs.getD i.toNat d)).bind fun t => if (acc ++ (⟨#[44]⟩ : ByteArray)).size + t.size ≤ 9223372036854775807 then L k ((acc ++ (⟨#[44]⟩ : ByteArray)) ++ t) (wrap64 (i + 1)) else none) else none) else none) else (if 0 ≤ i then ((E k (xs.getD i.toNat d)).bind fun t => if acc.size + t.size ≤ 9223372036854775807 then L k (acc ++ t) (wrap64 (i + 1)) else none) else none)) else F k acc)
    (hn : xs.length ≤ 1048576) (hE : ∀ x ∈ xs, Ev (fun k => E k x) (mkB (tx x))) (hb : pre.length + (xs.map fun x => (tx x).length + 2).sum ≤ 2305843009213693952)
    (hF : Ev (fun k => F k (mkB (pre ++ Lib.join (xs.map tx) [44]))) r) :
    ∀ (n i : Nat), xs.length - i = n → i ≤ xs.length → Ev (fun k => L k (mkB (pre ++ Lib.join ((xs.take i).map tx) [44])) i) r := by
  have hlen : ∀ i, (Lib.join ((xs.take i).map tx) [44]).length ≤ (xs.map fun x => (tx x).length + 2).sum := fun i => by
    refine Nat.le_trans (join_le1 _) ?_
    rw [List.map_map]
    exact sum_take_le (fun x => (tx x).length + 2) xs i
  intro n
  induction n with
  | zero =>
    intro i h1 h2
    refine Ev.step (fun k => hL k _ _) (ev_if_neg (by omega) ?_)
    rw [List.take_of_length_le (by omega)]
    exact hF
  | succ n ih =>
    intro i h1 h2
    have hi : i < xs.length := by omega
    have hs := ih (i + 1) (by omega) (by omega)
    have hx : (tx (xs.getD i d)).length + 2 ≤ (xs.map fun x => (tx x).length + 2).sum := sum_le_of_mem0 (fun x => (tx x).length + 2) (getD_mem d hi)
    have hl := hlen i
    rw [join_take1 d tx hi] at hs
    have hw : wrap64 ((i : Int) + 1) = ((i + 1 : Nat) : Int) := wrap_succ hi (by omega)
    refine Ev.step (fun k => hL k _ _) (ev_if_pos (by omega) ?_)
    rw [Int.toNat_natCast, hw]
    by_cases e : i = 0
    · rw [if_pos e] at hs
      refine ev_if_neg (by omega) (ev_if_pos (by omega) (Ev.bind (hE _ (getD_mem d hi)) (ev_if_pos (by rw [mkB_size, mkB_size, List.length_append]; omega) ?_)))
      rw [mkB_append, e]
      rw [e] at hs
      simpa [Lib.join_nil] using hs
    · rw [if_neg e] at hs
      refine ev_if_pos (by omega) (ev_if_pos (by rw [mkB_size, List.length_append]; omega) (ev_if_pos (by omega) (Ev.bind (hE _ (getD_mem d hi)) ?_)))
      rw [show (⟨#[44]⟩ : ByteArray) = mkB [44] from rfl, mkB_append]
      refine ev_if_pos (by simp only [mkB_size, List.length_append, List.length_cons, List.length_nil]; omega) ?_
      rw [mkB_append]
      simpa using hs
theorem join_is1 {α : Type} (tx : α → List UInt8) (xs : List α) (hn : xs.length ≤ 1048576) (hb : (xs.map fun x => (tx x).length + 2).sum ≤ 140737488355328) : strings_Join.f (xs.map fun x => mkB (tx x)) ⟨#[44]⟩ = some (mkB (Lib.join (xs.map tx) [44])) := by
  unfold strings_Join.f
  have e : (xs.map fun x => mkB (tx x)).map (fun b : ByteArray => b.data.toList) = xs.map tx := by rw [List.map_map]; rfl
  have hl := join_le1 (xs.map tx)
  rw [List.map_map] at hl
  rw [e, show (⟨#[44]⟩ : ByteArray).data.toList = [44] from rfl, if_pos ⟨Nat.le_trans hl hb, by rw [List.length_map]; omega⟩]
  rfl
/-- A row's text; a bag's. -/
def vT (x : S29) : List UInt8 := vtext x.f0 x.f1 x.f2.data.toList
def rowT (xs : List S29) : List UInt8 := Lib.join (xs.map vT) [44]
def lineT (c : S109) : List UInt8 := Lib.itoa c.f1 ++ [120, 32] ++ rowT c.f0 ++ [10]
def bagT (xs : List S109) : List UInt8 := xs.flatMap lineT
/-- Whole numbers as the machine has them, and rows that are not long. -/
def i64C (c : S109) : Prop := (-9223372036854775808 ≤ c.f1 ∧ c.f1 ≤ 9223372036854775807) ∧ (c.f0.length ≤ 12) ∧ ∀ v ∈ c.f0, -9223372036854775808 ≤ v.f1 ∧ v.f1 ≤ 9223372036854775807
theorem sum_le_each {α : Type} (f : α → Nat) (b : Nat) : ∀ (l : List α), (∀ x ∈ l, f x ≤ b) → (l.map f).sum ≤ l.length * b
  | [], _ => by simp
  | x :: l, h => by
    have h1 := h x (by simp)
    have h2 := sum_le_each f b l fun y hy => h y (by simp [hy])
    rw [List.map_cons, List.sum_cons, List.length_cons, Nat.add_mul]
    omega
theorem rowT_sum {xs : List S29} (h : xs.length ≤ 12) (hv : ∀ v ∈ xs, -9223372036854775808 ≤ v.f1 ∧ v.f1 ≤ 9223372036854775807) : (xs.map fun x => (vT x).length + 2).sum ≤ 4000 := by
  have g := sum_le_each (fun x => (vT x).length + 2) 302 xs fun x hx => by
    have := vtext_len x.f0 x.f1 x.f2.data.toList (hv x hx).1 (hv x hx).2
    show (vtext _ _ _).length + 2 ≤ 302
    omega
  have : xs.length * 302 ≤ 12 * 302 := Nat.mul_le_mul_right _ h
  omega
theorem rowT_len {xs : List S29} (h : xs.length ≤ 12) (hv : ∀ v ∈ xs, -9223372036854775808 ≤ v.f1 ∧ v.f1 ≤ 9223372036854775807) : (rowT xs).length ≤ 4000 := by
  have a := join_le1 (xs.map vT)
  rw [List.map_map] at a
  exact Nat.le_trans a (rowT_sum h hv)
theorem lineT_len {c : S109} (h : i64C c) : (lineT c).length ≤ 5000 := by
  have a := itoa_len h.1.1 h.1.2
  have b := rowT_len h.2.1 h.2.2
  unfold lineT
  simp only [List.length_append, List.length_cons, List.length_nil]
  omega
theorem bagT_snoc {xs : List S109} {i : Nat} (h : i < xs.length) : bagT (xs.take (i + 1)) = bagT (xs.take i) ++ lineT (xs.getD i z109) := by
  unfold bagT
  rw [take_snoc z109 h, List.flatMap_append]
  simp
theorem bagT_len {xs : List S109} (hx : ∀ c ∈ xs, i64C c) : ∀ i, i ≤ xs.length → (bagT (xs.take i)).length ≤ i * 5000
  | 0, _ => by simp [bagT]
  | i + 1, h => by
    have hi : i < xs.length := by omega
    rw [bagT_snoc hi, List.length_append]
    have a := bagT_len hx i (by omega)
    have b := lineT_len (hx _ (getD_mem z109 hi))
    omega
theorem implBag_loop (xs : List S109) (hn : xs.length ≤ 400) (hx : ∀ c ∈ xs, i64C c) : ∀ (n i : Nat), xs.length - i = n → i ≤ xs.length → Ev (fun k => impl_BagText.l0 k (mkB (bagT (xs.take i))) xs (xs.length : Int) i) (mkB (bagT xs)) := by
  intro n
  induction n with
  | zero =>
    intro i h1 h2
    refine Ev.step (fun k => rfl) (ev_if_neg (by omega) (ev_some fun _ => ?_))
    rw [List.take_of_length_le (by omega)]
  | succ n ih =>
    intro i h1 h2
    have hi : i < xs.length := by omega
    have hs := ih (i + 1) (by omega) (by omega)
    have hc := hx _ (getD_mem z109 hi)
    have hb := bagT_len hx i (by omega)
    rw [bagT_snoc hi] at hs
    have hl := lineT_len hc
    have hi400 : i * 5000 ≤ 400 * 5000 := Nat.mul_le_mul_right _ (by omega)
    generalize hC : xs.getD i z109 = C at *
    generalize bagT (xs.take i) = acc at *
    refine Ev.step (fun k => rfl) (ev_if_pos (by omega) (ev_if_pos (by omega) (ev_if_pos (by omega) ?_)))
    have e : (rd_T109 xs (i : Int)) = C := hC
    rw [e]
    have wl := words_loop z29 (fun k ws j => impl_BagText.l1 k (mkB acc) ws xs (xs.length : Int) (i : Int) C.f0 (C.f0.length : Int) j C.f0 C.f1) (fun _ y => impl_ValueText.f y.f0 y.f1 y.f2)
      (fun k ws => (impl_DecText.f C.f1).bind fun t212 => (if t212.size + 2 ≤ 9223372036854775807 then ((strings_Join.f ws (⟨#[44]⟩ : ByteArray)).bind fun t213 => (if (t212 ++ (⟨#[120, 32]⟩ : ByteArray)).size + t213.size ≤ 9223372036854775807 then (if ((t212 ++ (⟨#[120, 32]⟩ : ByteArray)) ++ t213).size + 1 ≤ 9223372036854775807 then (if (mkB acc).size + (((t212 ++ (⟨#[120, 32]⟩ : ByteArray)) ++ t213) ++ (⟨#[10]⟩ : ByteArray)).size ≤ 140737488355328 then (impl_BagText.l0 k ((mkB acc) ++ (((t212 ++ (⟨#[120, 32]⟩ : ByteArray)) ++ t213) ++ (⟨#[10]⟩ : ByteArray))) xs (xs.length : Int) (wrap64 ((i : Int) + 1))) else (none)) else (none)) else (none))) else (none)))
      vT C.f0 (mkB (bagT xs)) (fun _ _ _ => rfl) (by have := hc.2.1; omega) (fun y hy => ev_some fun _ => implValueText_is y.f0 y.f1 y.f2 (hc.2.2 y hy).1 (hc.2.2 y hy).2) ?_ C.f0.length 0 rfl (Nat.zero_le _)
    · exact wl
    have il := itoa_len hc.1.1 hc.1.2
    have rl := rowT_len hc.2.1 hc.2.2
    have rs := rowT_sum hc.2.1 hc.2.2
    have q1 : mkB (Lib.itoa C.f1) ++ (⟨#[120, 32]⟩ : ByteArray) = mkB (Lib.itoa C.f1 ++ [120, 32]) := mkB_append _ [120, 32]
    have q2 : mkB (Lib.itoa C.f1 ++ [120, 32]) ++ mkB (rowT C.f0) = mkB (Lib.itoa C.f1 ++ [120, 32] ++ rowT C.f0) := mkB_append _ _
    have q3 : mkB (Lib.itoa C.f1 ++ [120, 32] ++ rowT C.f0) ++ (⟨#[10]⟩ : ByteArray) = mkB (lineT C) := mkB_append _ [10]
    refine ev_bind0 (implDecText_is C.f1 hc.1.1 hc.1.2) (ev_if_pos (by rw [mkB_size]; omega) (ev_bind0 (join_is1 vT C.f0 (by have := hc.2.1; omega) (by omega)) ?_))
    show Ev (fun k => if (mkB (Lib.itoa C.f1) ++ (⟨#[120, 32]⟩ : ByteArray)).size + (mkB (rowT C.f0)).size ≤ 9223372036854775807 then (if ((mkB (Lib.itoa C.f1) ++ (⟨#[120, 32]⟩ : ByteArray)) ++ mkB (rowT C.f0)).size + 1 ≤ 9223372036854775807 then (if (mkB acc).size + (((mkB (Lib.itoa C.f1) ++ (⟨#[120, 32]⟩ : ByteArray)) ++ mkB (rowT C.f0)) ++ (⟨#[10]⟩ : ByteArray)).size ≤ 140737488355328 then (impl_BagText.l0 k ((mkB acc) ++ (((mkB (Lib.itoa C.f1) ++ (⟨#[120, 32]⟩ : ByteArray)) ++ mkB (rowT C.f0)) ++ (⟨#[10]⟩ : ByteArray))) xs (xs.length : Int) (wrap64 ((i : Int) + 1))) else none) else none) else none) _
    rw [q1, q2, q3, mkB_append, wrap_succ hi (by omega)]
    refine ev_if_pos (by simp only [mkB_size, List.length_append, List.length_cons, List.length_nil]; omega) (ev_if_pos (by simp only [mkB_size, List.length_append, List.length_cons, List.length_nil]; omega) (ev_if_pos (by simp only [mkB_size]; omega) ?_))
    exact hs
theorem specBag_loop (w : Int) (xs : List S109) (hn : xs.length ≤ 400) (hx : ∀ c ∈ xs, i64C c) (ok : Ev (fun k => spec_BagOk.f k w xs) true) : ∀ (n i : Nat), xs.length - i = n → i ≤ xs.length → Ev (fun k => spec_BagText.l0 k (mkB (bagT (xs.take i))) i w xs) (mkB (bagT xs)) := by
  have hj := fun (q : Bool) (k : Nat) (a : ByteArray) (i : Int) => (show spec_BagText.j1 (k + 1) a i q w xs = ite (q = true) _ (some a) from rfl)
  intro n
  induction n with
  | zero =>
    intro i h1 h2
    refine Ev.step (fun k => rfl) (ev_if_neg (by omega) (Ev.step (fun k => (hj false k _ _).trans (if_neg Bool.false_ne_true)) (ev_some fun _ => ?_)))
    rw [List.take_of_length_le (by omega)]
  | succ n ih =>
    intro i h1 h2
    have hi : i < xs.length := by omega
    have hs := ih (i + 1) (by omega) (by omega)
    have hc := hx _ (getD_mem z109 hi)
    have hb := bagT_len hx i (by omega)
    rw [bagT_snoc hi] at hs
    have hi400 : i * 5000 ≤ 400 * 5000 := Nat.mul_le_mul_right _ (by omega)
    generalize hC : xs.getD i z109 = C at *
    generalize bagT (xs.take i) = acc at *
    have e : (rd_T109 xs (i : Int)) = C := hC
    have il := itoa_len hc.1.1 hc.1.2
    have rl := rowT_len hc.2.1 hc.2.2
    have rs := rowT_sum hc.2.1 hc.2.2
    refine Ev.step (fun k => rfl) (ev_if_pos (by omega) (Ev.bind ok (Ev.step (fun k => (hj true k _ _).trans (if_pos rfl)) (ev_if_pos (by omega) (ev_if_pos (by omega) ?_)))))
    rw [e]
    have q1 : mkB acc ++ mkB (Lib.itoa C.f1) = mkB (acc ++ Lib.itoa C.f1) := mkB_append _ _
    have q2 : mkB (acc ++ Lib.itoa C.f1) ++ (⟨#[120, 32]⟩ : ByteArray) = mkB (acc ++ Lib.itoa C.f1 ++ [120, 32]) := mkB_append _ [120, 32]
    refine Ev.bind (specDecText_is C.f1 hc.1.1 hc.1.2) (ev_if_pos (by simp only [mkB_size]; omega) ?_)
    rw [q1]
    refine ev_if_pos (by simp only [mkB_size, List.length_append]; omega) ?_
    rw [q2]
    have h0 : 0 ≤ (i : Int) := by omega
    have h1' : (i : Int) < (xs.length : Int) := by omega
    have jl := join_loop1 z29 (fun k a j => spec_BagText.l1 k a (i : Int) j w xs) (fun k y => spec_ValueText.f k y.f0 y.f1 y.f2)
      (fun k a => if a.size + 1 ≤ 9223372036854775807 then spec_BagText.l0 k (a ++ (⟨#[10]⟩ : ByteArray)) (wrap64 ((i : Int) + 1)) w xs else none) vT C.f0 (acc ++ Lib.itoa C.f1 ++ [120, 32]) (mkB (bagT xs))
      (fun k a j => by
        rw [← e]
        exact (show spec_BagText.l1 (k + 1) a (i : Int) j w xs = ite (0 ≤ (i : Int)) (ite ((i : Int) < (xs.length : Int)) _ none) none from rfl).trans ((if_pos h0).trans (if_pos h1')))
      (by have := hc.2.1; omega) (fun y hy => specValueText_is y.f0 y.f1 y.f2 (hc.2.2 y hy).1 (hc.2.2 y hy).2) (by simp only [List.length_append, List.length_cons, List.length_nil]; omega) ?_ C.f0.length 0 rfl (Nat.zero_le _)
    · simpa [Lib.join_nil] using jl
    have q3 : mkB (acc ++ Lib.itoa C.f1 ++ [120, 32] ++ rowT C.f0) ++ (⟨#[10]⟩ : ByteArray) = mkB (acc ++ lineT C) := by
      rw [show (⟨#[10]⟩ : ByteArray) = mkB [10] from rfl, mkB_append]
      simp [lineT]
    show Ev (fun k => if (mkB (acc ++ Lib.itoa C.f1 ++ [120, 32] ++ rowT C.f0)).size + 1 ≤ 9223372036854775807 then spec_BagText.l0 k (mkB (acc ++ Lib.itoa C.f1 ++ [120, 32] ++ rowT C.f0) ++ (⟨#[10]⟩ : ByteArray)) (wrap64 ((i : Int) + 1)) w xs else none) _
    rw [q3, wrap_succ hi (by omega)]
    exact ev_if_pos (by simp only [mkB_size, List.length_append, List.length_cons, List.length_nil]; omega) hs
open Classical in
/-- What both tell of a bag; of what is none, nothing. -/
theorem bagText_is (w : Int) (xs : List S109) (hn : xs.length ≤ 1048576) (hx : ∀ c ∈ xs, c.f0.length ≤ 1048576) (hi : ∀ c ∈ xs, (-9223372036854775808 ≤ c.f1 ∧ c.f1 ≤ 9223372036854775807) ∧ ∀ v ∈ c.f0, -9223372036854775808 ≤ v.f1 ∧ v.f1 ≤ 9223372036854775807) :
    ∃ t, Ev (fun k => impl_BagText.f k w xs) t ∧ Ev (fun k => spec_BagText.f k w xs) t := by
  have io := impl_bagOk_is w xs hn (decide (BagP w xs)) decide_eq_true_iff
  have so := spec_bagOk_is w xs hn hx (decide (BagP w xs)) decide_eq_true_iff
  by_cases h : BagP w xs
  · rw [decide_eq_true h] at io so
    have hn4 := h.2.2
    have hc : ∀ c ∈ xs, i64C c := (forall_getD z109 (p := i64C)).1 fun j hj => by
      have m := getD_mem z109 hj
      have hr := (h.1 j hj).1.2
      exact ⟨(hi _ m).1, by have := h.2.1.2; omega, (hi _ m).2⟩
    exact ⟨mkB (bagT xs), Ev.congr (fun k => rfl) (Ev.bind io (ev_if_pos rfl (implBag_loop xs hn4 hc _ 0 rfl (Nat.zero_le _)))), specBag_loop w xs hn4 hc so _ 0 rfl (Nat.zero_le _)⟩
  · rw [decide_eq_false h] at io so
    refine ⟨mkB [], Ev.congr (fun k => rfl) (Ev.bind io (ev_if_neg (by simp) (ev_some fun _ => rfl))), ?_⟩
    show Ev (fun k => spec_BagText.l0 k (mkB []) 0 w xs) (mkB [])
    have hj := fun (q : Bool) (k : Nat) (a : ByteArray) (i : Int) => (show spec_BagText.j1 (k + 1) a i q w xs = ite (q = true) _ (some a) from rfl)
    by_cases g : (0 : Int) < (xs.length : Int)
    · exact Ev.step (fun k => rfl) (ev_if_pos g (Ev.bind so (Ev.step (fun k => (hj false k _ _).trans (if_neg Bool.false_ne_true)) (ev_some fun _ => rfl))))
    · exact Ev.step (fun k => rfl) (ev_if_neg g (Ev.step (fun k => (hj false k _ _).trans (if_neg Bool.false_ne_true)) (ev_some fun _ => rfl)))
end Go.Proofs.YthgdmdabdlgliaaDoor.PFnExactBagText
