/- Plain lemmas on what the functions of the law FnExactBagOf compute: numbers and lists alone. -/
import Derived.Test.YtapgfamppnhnmaaPFnExactBagOfx0
import Derived.Test.YtapgfamppnhnmaaPFnExactBagOfx1
import Derived.Test.YtapgfamppnhnmaaPFnExactBagOfx2
import Derived.Test.YtapgfamppnhnmaaPFnExactBagOfx3
import Derived.Test.YtapgfamppnhnmaaPFnExactBagOfx4
import Derived.Test.YtapgfamppnhnmaaPFnExactBagOfx5
import Derived.Test.YtapgfamppnhnmaaPFnExactBagOfx6
import Derived.Test.YtapgfamppnhnmaaPFnExactBagOfx7
import Derived.Test.YtapgfamppnhnmaaPFnExactBagOfx8
import Derived.Test.YtapgfamppnhnmaaPFnExactBagOfx9
import Derived.Test.YtapgfamppnhnmaaPFnExactBagOfx10
import Derived.Test.YtapgfamppnhnmaaPFnExactBagOfx11
import Derived.Test.YtapgfamppnhnmaaPFnExactBagOfx12
import Derived.Test.YtapgfamppnhnmaaPFnExactBagOfx13
import Derived.Test.YtapgfamppnhnmaaOpen
import Derived.Test.YtapgfamppnhnmaaZFnExactBagOf
namespace Go.Proofs.Ytapgfamppnhnmaa.PFnExactBagOf
open Go.RowKit Go.Proofs.YtapgfamppnhnmaaW.PrintWords Go.Proofs.YtapgfamppnhnmaaW.PrintLast Go.Proofs.YtapgfamppnhnmaaW.PrintMore Go.Proofs.YtapgfamppnhnmaaOpen Go.Proofs.Ytapgfamppnhnmaa.ZFnExactBagOf
set_option linter.unusedVariables false
set_option linter.unusedSimpArgs false
theorem szValue_is (a b : Int) (s : ByteArray) (l : Int) (h0 : 0 ≤ l) (h1 : l ≤ 1048576) (hs : s.size ≤ 9223372036854775807) : laws_szValue.f a b s l = some (lft l s.size) := by
 unfold laws_szValue.f
 rw [wrap_id (x := l - (s.size : Int)) (by omega) (by omega)]
 by_cases h : l - (s.size : Int) < 0
 ·rw [if_pos h, lft_of_gt (by omega)]
 ·rw [if_neg h, lft_of_le (by omega)]
theorem cmpBytes_is (l m : List UInt8) : Go.Lib.compareBytes l m = if Op.bytesLess l m = true then -1 else if (Op.bytesLess l m || l == m) = true then 0 else 1 := by
 induction l generalizing m with
 | nil => cases m <;> simp [Go.Lib.compareBytes, Op.bytesLess]
 | cons a l ih =>
  cases m with
  | nil => simp [Go.Lib.compareBytes, Op.bytesLess]
  | cons b m =>
   simp only [Go.Lib.compareBytes, Op.bytesLess]
   by_cases h : a < b
   ·simp [h]
   ·by_cases h' : b < a
    ·have hne : ¬ a = b := by rintro rfl; exact absurd h' h
     simp [h, h', hne]
    ·have e : a = b := by
      apply UInt8.toNat_inj.1
      have h1 : ¬ a.toNat < b.toNat := h
      have h2 : ¬ b.toNat < a.toNat := h'
      omega
     subst e
     simp only [h, if_false, ih]
     simp
def cmpI (a b : Int) : Int := if a < b then -1 else if b < a then 1 else 0
theorem compare_int_is (a b : Int) : cmp_Compare_int.f a b = some (cmpI a b) := by
 unfold cmp_Compare_int.f cmp_isNaN_int.f cmpI
 simp only [Option.bind_some, bne_self_eq_false, Bool.false_eq_true, if_false, gt_iff_lt]
 by_cases h : a < b
 ·simp [h]
 ·by_cases h' : b < a <;> simp [h, h']
theorem or_three (k : Nat) (a b c : Int) : cmp_Or_int.f (k + 4) [a, b, c] = some (if a = 0 then (if b = 0 then c else b) else a) := by
 have w0 : wrap64 (0 + 1) = 1 := by unfold wrap64; omega
 have w1 : wrap64 (1 + 1) = 2 := by unfold wrap64; omega
 have w2 : wrap64 (2 + 1) = 3 := by unfold wrap64; omega
 unfold cmp_Or_int.f
 simp only [cmp_Or_int.l0, List.length_cons, List.length_nil, w0, w1, w2, rd]
 by_cases ha : a = 0
 ·by_cases hb : b = 0
  ·by_cases hc : c = 0
   ·simp [ha, hb, hc]
   ·simp [ha, hb, hc]
  ·simp [ha, hb]
 ·simp [ha]
theorem compareValue_is (k : Nat) (a b : Int) (s : ByteArray) (a' b' : Int) (s' : ByteArray) : impl_CompareValue.f (k + 4) a b s a' b' s' = some (cmpV a b s a' b' s') := by
 unfold impl_CompareValue.f strings_Compare.f bytealg_CompareString.f
 simp only [compare_int_is, Option.bind_some, or_three, cmpBytes_is]
 unfold cmpV cmpI
 have hd : ∀ z : ByteArray, z.toList = z.data.toList := fun z => ByteArray.toList_eq z
 rw [hd, hd]
 by_cases h1 : a < a'
 ·simp [h1]
 ·by_cases h2 : a' < a
  ·simp [h1, h2]
  ·by_cases h3 : b < b'
   ·simp [h1, h2, h3]
   ·by_cases h4 : b' < b
    ·simp [h1, h2, h3, h4]
    ·simp [h1, h2, h3, h4]
def wtV (x : S56) : Nat := x.f2.size
def wtVS (l : List S56) : Nat := l.length + (l.map wtV).sum
theorem szValueS_is (xs : List S56) (hn : xs.length ≤ 9223372036854775807) (hx : ∀ x ∈ xs, x.f2.size ≤ 9223372036854775807) (l : Int) (h0 : 0 ≤ l) (h1 : l ≤ 1048576) : Ev (fun k => laws_szValueS.f k xs l) (lft l (wtVS xs)) :=
 sz_list z56 laws_szValueS.f laws_szValueS.l0 (fun _ x l => laws_szValue.f x.f0 x.f1 x.f2 l) wtV (fun _ _ _ => rfl) (fun _ _ _ _ => rfl) xs hn (fun x hx' l h0 h1 => ev_some fun _ => szValue_is _ _ _ l h0 h1 (hx x hx')) l h0 h1
def toV (x : S56) : S25 := ⟨x.f0, x.f1, x.f2⟩
theorem toValueS_is (xs : List S56) (hn : xs.length ≤ 8796093022208) : Ev (fun k => laws_toValueS.f k xs) (xs.map toV) :=
 map_list z56 z25 laws_toValueS.f laws_toValueS.l0 (fun _ x => laws_toValue.f x.f0 x.f1 x.f2) (fun bt => (⟨bt.1, bt.2.1, bt.2.2⟩ : S25)) (fun x => (x.f0, x.f1, x.f2)) 8796093022208 (fun _ _ => rfl) (fun _ _ _ _ => rfl) xs hn (by omega) (fun x _ => ev_some fun _ => rfl)
theorem eqValue_refl (a b : Int) (s : ByteArray) : laws_eqValue.f a b s a b s = some true := by simp [laws_eqValue.f]
theorem eqValueS_refl (xs : List S25) (hn : xs.length ≤ 9223372036854775807) : Ev (fun k => laws_eqValueS.f k xs xs) true :=
 eq_list z25 laws_eqValueS.f laws_eqValueS.l0 (fun _ x y => laws_eqValue.f x.f0 x.f1 x.f2 y.f0 y.f1 y.f2) (fun _ _ _ => rfl) (fun _ _ _ _ => rfl) xs hn (fun x _ => ev_some fun _ => eqValue_refl _ _ _)
theorem eqCounted_refl (a : List S25) (n : Int) (hn : a.length ≤ 9223372036854775807) : Ev (fun k => laws_eqCounted.f k a n a n) true := by
 refine Ev.congr (fun k => rfl) (Ev.bind (eqValueS_refl a hn) (f := fun k t => if t = true then (if n = n then some true else some false) else some false) ?_)
 exact ev_some fun _ => by simp
theorem eqCountedS_refl (xs : List S74) (hn : xs.length ≤ 9223372036854775807) (hx : ∀ x ∈ xs, x.f0.length ≤ 9223372036854775807) : Ev (fun k => laws_eqCountedS.f k xs xs) true :=
 eq_list z74 laws_eqCountedS.f laws_eqCountedS.l0 (fun k x y => laws_eqCounted.f k x.f0 x.f1 y.f0 y.f1) (fun _ _ _ => rfl) (fun _ _ _ _ => rfl) xs hn (fun x h => eqCounted_refl _ _ (hx x h))
theorem eqBag_refl (w : Int) (xs : List S74) (hn : xs.length ≤ 9223372036854775807) (hx : ∀ x ∈ xs, x.f0.length ≤ 9223372036854775807) : Ev (fun k => laws_eqBag.f k w xs w xs) true := by
 refine Ev.congr (fun k => if_pos rfl) (Ev.bind (eqCountedS_refl xs hn hx) (f := fun k t => if t = true then some true else some false) ?_)
 exact ev_some fun _ => by simp
def okV (a b : Int) (s : List UInt8) : Bool := if a = 0 then (b == 0 && s.isEmpty) else if a = 1 then s.isEmpty else if a = 2 then (decide (0 ≤ b ∧ b ≤ 1) && s.isEmpty) else if a = 3 then (b == 0 && decide (s.length ≤ 100)) else false
theorem specValueOk_is (a b : Int) (s : ByteArray) : spec_ValueOk.f a b s = some (okV a b s.data.toList) := by
 unfold spec_ValueOk.f okV spec_l01In.f
 have he : (s.toList == ([] : List UInt8)) = s.data.toList.isEmpty := by rw [toList_data]; cases s.data.toList <;> rfl
 rw [he, size_data]
 by_cases h0 : a = 0
 ·by_cases hb : b = 0 <;> simp [h0, hb]
 ·by_cases h1 : a = 1
  ·simp [h1]
  ·by_cases h2 : a = 2
   ·by_cases hb : 0 ≤ b
    ·by_cases hb' : b ≤ 1 <;> simp [h2, hb, hb']
    ·simp [h2, hb]
   ·by_cases h3 : a = 3
    ·by_cases hb : b = 0
     ·simp [h3, hb]
      omega
     ·simp [h3, hb]
    ·simp [h0, h1, h2, h3]
theorem implValueOk_is (a b : Int) (s : ByteArray) : impl_ValueOk.f a b s = some (okV a b s.data.toList) := specValueOk_is a b s
def cmpW (x y : S25) : Int := cmpV x.f0 x.f1 x.f2 y.f0 y.f1 y.f2
def cmpRow : List S25 → List S25 → Int
 | [], [] => 0
 | [], _ :: _ => -1
 | _ :: _, [] => 1
 | x :: xs, y :: ys => if cmpW x y = 0 then cmpRow xs ys else cmpW x y
theorem specCompareRow_tail (xs ys : List S25) (i : Nat) (h : i = xs.length ∨ i = ys.length) (h0 : i ≤ xs.length) (h1 : i ≤ ys.length) :
  (if (xs.length : Int) < (ys.length : Int) then (some (-1)) else (if (xs.length : Int) > (ys.length : Int) then (some 1) else (some 0))) = some (cmpRow (xs.drop i) (ys.drop i)) := by
 by_cases hx : i < xs.length
 ·have hy : i = ys.length := by omega
  rw [if_neg (by omega), if_pos (by omega), drop_cons_getD z25 hx, show ys.drop i = [] from List.drop_eq_nil_of_le (by omega), cmpRow]
 ·by_cases hy : i < ys.length
  ·rw [if_pos (by omega), drop_cons_getD z25 hy, show xs.drop i = [] from List.drop_eq_nil_of_le (by omega), cmpRow]
  ·rw [if_neg (by omega), if_neg (by omega), show xs.drop i = [] from List.drop_eq_nil_of_le (by omega), show ys.drop i = [] from List.drop_eq_nil_of_le (by omega), cmpRow]
theorem specCompareRow_loop (xs ys : List S25) (hn : xs.length ≤ 9223372036854775807) : ∀ (n i : Nat), xs.length - i = n → i ≤ xs.length → i ≤ ys.length → Ev (fun k => spec_CompareRow.l0 k xs ys i) (cmpRow (xs.drop i) (ys.drop i)) := by
 intro n
 induction n with
 | zero =>
  intro i h1 h2 h3
  refine Ev.step (fun k => rfl) (ev_if_neg (by omega) (Ev.step (fun k => rfl) (ev_some fun _ => specCompareRow_tail xs ys i (.inl (by omega)) h2 h3)))
 | succ n ih =>
  intro i h1 h2 h3
  have hi : i < xs.length := by omega
  refine Ev.step (fun k => rfl) (ev_if_pos (by omega) (Ev.step (fun k => rfl) ?_))
  by_cases hy : i < ys.length
  ·refine ev_if_pos (decide_eq_true (by omega)) (ev_if_pos (by omega) (ev_if_pos (by omega) (ev_if_pos (by omega) ?_)))
   refine ev_bind0 (a := cmpW (xs.getD i z25) (ys.getD i z25)) (by rw [← Int.toNat_natCast i]; rfl) ?_
   rw [wrap_succ hi hn, drop_cons_getD z25 hi, drop_cons_getD z25 hy, cmpRow]
   by_cases hc : cmpW (xs.getD i z25) (ys.getD i z25) = 0
   ·rw [if_pos hc]
    exact ev_if_pos hc (ih (i + 1) (by omega) (by omega) (by omega))
   ·rw [if_neg hc]
    exact ev_if_neg hc (ev_some fun _ => rfl)
  ·exact ev_if_neg (by simpa using hy) (ev_some fun _ => specCompareRow_tail xs ys i (.inr (by omega)) h2 h3)
theorem specCompareRow_is (xs ys : List S25) (hn : xs.length ≤ 9223372036854775807) : Ev (fun k => spec_CompareRow.f k xs ys) (cmpRow xs ys) := specCompareRow_loop xs ys hn xs.length 0 rfl (Nat.zero_le _) (Nat.zero_le _)
theorem implCompareRow_is4 (k : Nat) : ∀ xs ys, impl_CompareRow.f (k + 4) xs ys = some (cmpRow xs ys)
 | [], [] => rfl
 | [], _ :: _ => rfl
 | _ :: _, [] => rfl
 | x :: xs, y :: ys => by
  have ih := implCompareRow_is4 k xs ys
  unfold impl_CompareRow.f at ih ⊢
  rw [cmpO, compareValue_is, Option.bind_some, cmpRow, ih]
  show (if cmpW x y = 0 then _ else some (cmpW x y)) = _
  by_cases hc : cmpW x y = 0 <;> simp [hc]
theorem implCompareRow_is (xs ys : List S25) : Ev (fun k => impl_CompareRow.f k xs ys) (cmpRow xs ys) := ⟨4, fun k hk => by
 obtain ⟨m, rfl⟩ : ∃ m, k = m + 4 := ⟨k - 4, by omega⟩
 exact implCompareRow_is4 m xs ys⟩
def RowP (xs : List S25) (w : Int) : Prop := (∀ x ∈ xs, okV x.f0 x.f1 x.f2.data.toList = true) ∧ (xs.length : Int) = w
theorem l01In_is (a b c : Int) : spec_l01In.f a b c = some (decide (b ≤ a ∧ a ≤ c)) := by
 unfold spec_l01In.f
 by_cases h : a ≥ b
 ·rw [if_pos h]
  by_cases h' : a ≤ c <;> simp [h', show b ≤ a from h]
 ·rw [if_neg h, decide_eq_false (by omega)]
theorem spec_row_is (xs : List S25) (w : Int) (hn : xs.length ≤ 9223372036854775807) (r : Bool) (hr : r = true ↔ RowP xs w) : Ev (fun k => spec_l02Row.f k xs w) r := by
 refine all_loop xs.length (fun k i => spec_l02Row.l0 k xs w i) (fun j => okV (xs.getD j z25).f0 (xs.getD j z25).f1 (xs.getD j z25).f2.data.toList = true) ((xs.length : Int) = w) ?_ ?_ r (hr.trans ?_)
 ·intro r hr
  refine Ev.step (fun k => rfl) (ev_if_neg (by omega) (ev_some fun _ => ?_))
  congr 1
  rw [Bool.eq_iff_iff, hr, beq_iff_eq]
 ·intro i hi r next no
  refine Ev.step (fun k => rfl) (ev_if_pos (by omega) (ev_if_pos (by omega) (ev_bind0 (specValueOk_is _ _ _) ?_)))
  rw [wrap_succ hi hn]
  by_cases h : okV (xs.getD i z25).f0 (xs.getD i z25).f1 (xs.getD i z25).f2.data.toList = true
  ·exact ev_if_pos h (next h)
  ·exact ev_if_neg h (ev_conv (ev_some fun _ => rfl) (no h).symm)
 ·unfold RowP
  rw [forall_getD z25 (p := fun x => okV x.f0 x.f1 x.f2.data.toList = true)]
theorem allO_eq {α : Type} {f : α → Option Bool} {g : α → Bool} : ∀ {xs : List α}, (∀ x ∈ xs, f x = some (g x)) → allO f xs = some (xs.all g)
 | [], _ => rfl
 | x :: xs, h => by
  rw [allO, h x (List.mem_cons_self ..), Option.bind_some, List.all_cons]
  cases g x with
  | false => rfl
  | true => rw [if_pos rfl, allO_eq fun y hy => h y (List.mem_cons_of_mem _ hy), Bool.true_and]
theorem within_is (a b c : Int) : impl_within.f a b c = some (decide (b ≤ a ∧ a ≤ c)) := by
 unfold impl_within.f
 by_cases h : b ≤ a
 ·rw [if_pos h]
  by_cases h' : a ≤ c <;> simp [h', h]
 ·rw [if_neg h, decide_eq_false (by omega)]
theorem impl_row_is (xs : List S25) (w : Int) (r : Bool) (hr : r = true ↔ RowP xs w) : impl_isRow.f xs w = some r := by
 unfold impl_isRow.f
 by_cases h : (xs.length : Int) = w
 ·rw [if_pos h, allO_eq (g := fun x => okV x.f0 x.f1 x.f2.data.toList) fun x _ => implValueOk_is _ _ _]
  congr 1
  rw [Bool.eq_iff_iff, hr, List.all_eq_true]
  exact ⟨fun g => ⟨g, h⟩, fun g => g.1⟩
 ·rw [if_neg h]
  cases r with
  | false => rfl
  | true => exact absurd (hr.1 rfl).2 h
def CntP (w : Int) (xs : List S74) (j : Nat) : Prop :=
 RowP (xs.getD j z74).f0 w ∧ (xs.getD j z74).f1 ≠ 0 ∧ (-1000000000 ≤ (xs.getD j z74).f1 ∧ (xs.getD j z74).f1 ≤ 1000000000) ∧ (0 < j → cmpRow (xs.getD (j - 1) z74).f0 (xs.getD j z74).f0 < 0)
def BagP (w : Int) (xs : List S74) : Prop := (∀ j, j < xs.length → CntP w xs j) ∧ (0 ≤ w ∧ w ≤ 12) ∧ xs.length ≤ 400
open Classical in
theorem spec_bagOk_is (w : Int) (xs : List S74) (hn : xs.length ≤ 1048576) (hx : ∀ x ∈ xs, x.f0.length ≤ 1048576) (r : Bool) (hr : r = true ↔ BagP w xs) : Ev (fun k => spec_BagOk.f k w xs) r := by
 refine all_loop xs.length (fun k i => spec_BagOk.l0 k i w xs) (CntP w xs) ((0 ≤ w ∧ w ≤ 12) ∧ xs.length ≤ 400) ?_ ?_ r hr
 ·intro r hr
  refine Ev.step (fun k => rfl) (ev_if_neg (by omega) (ev_some fun _ => ?_))
  rw [l01In_is, Option.bind_some]
  by_cases h : 0 ≤ w ∧ w ≤ 12
  ·rw [if_pos (decide_eq_true h)]
   congr 1
   rw [Bool.eq_iff_iff, hr, decide_eq_true_eq]
   exact ⟨fun g => ⟨h, by omega⟩, fun g => by have := g.2; omega⟩
  ·rw [if_neg (by simpa using h)]
   cases r with
   | false => rfl
   | true => exact absurd (hr.1 rfl).1 h
 ·intro i hi r next no
  have len : ∀ j, j < xs.length → (xs.getD j z74).f0.length ≤ 9223372036854775807 := fun j hj => Nat.le_trans (hx _ (getD_mem _ hj)) (by omega)
  have stop : ¬ CntP w xs i → Ev (fun _ : Nat => some false) r := fun g => ev_conv (ev_some fun _ => rfl) (no g).symm
  refine Ev.step (fun k => rfl) (ev_if_pos (by omega) (ev_if_pos (by omega) (Ev.bind (spec_row_is (xs.getD i z74).f0 w (len i hi) (decide (RowP (xs.getD i z74).f0 w)) decide_eq_true_iff) ?_)))
  by_cases h1 : RowP (xs.getD i z74).f0 w
  case neg => exact ev_if_neg (by simpa using h1) (stop fun g => h1 g.1)
  refine ev_if_pos (decide_eq_true h1) ?_
  by_cases h2 : (xs.getD i z74).f1 = 0
  case pos => exact ev_if_pos h2 (stop fun g => g.2.1 h2)
  refine ev_if_neg h2 (ev_bind0 (l01In_is _ _ _) ?_)
  by_cases h3 : -1000000000 ≤ (xs.getD i z74).f1 ∧ (xs.getD i z74).f1 ≤ 1000000000
  case neg => exact ev_if_neg (by rw [decide_eq_true_eq]; exact h3) (stop fun g => h3 g.2.2.1)
  refine ev_if_pos (decide_eq_true h3) ?_
  rw [wrap_succ hi (by omega)]
  by_cases h4 : 0 < i
  case neg => exact ev_if_neg (by omega) (next ⟨h1, h2, h3, fun g => absurd g h4⟩)
  rw [wrap_pred h4 (by omega)]
  refine ev_if_pos (by omega) (ev_if_pos (by omega) (ev_if_pos (by omega) (Ev.bind (specCompareRow_is (xs.getD (i - 1) z74).f0 (xs.getD i z74).f0 (len (i - 1) (by omega))) ?_)))
  by_cases h5 : cmpRow (xs.getD (i - 1) z74).f0 (xs.getD i z74).f0 ≥ 0
  ·exact ev_if_pos h5 (stop fun g => by have := g.2.2.2 h4; omega)
  ·exact ev_if_neg h5 (next ⟨h1, h2, h3, fun _ => by omega⟩)
open Classical in
theorem impl_bagOk_is (w : Int) (xs : List S74) (hn : xs.length ≤ 1048576) (r : Bool) (hr : r = true ↔ BagP w xs) : Ev (fun k => impl_BagOk.f k w xs) r := by
 unfold impl_BagOk.f
 rw [within_is]
 refine Ev.congr (fun k => Option.bind_some _ _) ?_
 have no : ¬ BagP w xs → r = false := fun h => by
  cases r with
  | false => rfl
  | true => exact absurd (hr.1 rfl) h
 by_cases hw : 0 ≤ w ∧ w ≤ 12
 case neg => exact ev_if_neg (by rw [decide_eq_true_eq]; exact hw) (Ev.step (fun k => rfl) (ev_conv (ev_some fun _ => rfl) (no fun g => hw g.2.1).symm))
 refine ev_if_pos (decide_eq_true hw) ?_
 by_cases hl : (xs.length : Int) > 400
 case pos => exact Ev.step (fun k => rfl) (ev_if_pos (decide_eq_true hl) (ev_conv (ev_some fun _ => rfl) (no fun g => by have := g.2.2; omega).symm))
 refine Ev.step (fun k => rfl) (ev_if_neg (by rw [decide_eq_true_eq]; exact hl) ?_)
 refine all_loop xs.length (fun k i => impl_BagOk.l0 k xs (xs.length : Int) i w xs) (CntP w xs) True ?_ ?_ r (hr.trans ⟨fun g => ⟨g.1, trivial⟩, fun g => ⟨g.1, hw, by omega⟩⟩)
 ·intro r hr
  exact Ev.step (fun k => rfl) (ev_if_neg (by omega) (ev_conv (ev_some fun _ => rfl) (hr.2 trivial).symm))
 ·intro i hi r next no
  have stop : ¬ CntP w xs i → Ev (fun _ : Nat => some false) r := fun g => ev_conv (ev_some fun _ => rfl) (no g).symm
  refine Ev.step (fun k => rfl) (ev_if_pos (by omega) (ev_if_pos (by omega) (ev_if_pos (by omega) (ev_bind0 (impl_row_is (xs.getD i z74).f0 w (decide (RowP (xs.getD i z74).f0 w)) decide_eq_true_iff) ?_))))
  by_cases h1 : RowP (xs.getD i z74).f0 w
  case neg => exact ev_if_neg (by simpa using h1) (stop fun g => h1 g.1)
  refine ev_if_pos (decide_eq_true h1) ?_
  by_cases h2 : (xs.getD i z74).f1 = 0
  case pos => exact ev_if_pos h2 (stop fun g => g.2.1 h2)
  refine ev_if_neg h2 (ev_bind0 (within_is _ _ _) ?_)
  by_cases h3 : -1000000000 ≤ (xs.getD i z74).f1 ∧ (xs.getD i z74).f1 ≤ 1000000000
  case neg => exact ev_if_neg (by rw [decide_eq_true_eq]; exact h3) (stop fun g => h3 g.2.2.1)
  refine ev_if_pos (decide_eq_true h3) ?_
  rw [wrap_succ hi (by omega)]
  by_cases h4 : 0 < i
  case neg => exact ev_if_neg (by omega) (next ⟨h1, h2, h3, fun g => absurd g h4⟩)
  rw [wrap_pred h4 (by omega)]
  refine ev_if_pos (by omega) (ev_if_pos (by omega) (ev_if_pos (by omega) (Ev.bind (implCompareRow_is (xs.getD (i - 1) z74).f0 (xs.getD i z74).f0) ?_)))
  by_cases h5 : cmpRow (xs.getD (i - 1) z74).f0 (xs.getD i z74).f0 ≥ 0
  ·exact ev_if_pos h5 (stop fun g => by have := g.2.2.2 h4; omega)
  ·exact ev_if_neg h5 (next ⟨h1, h2, h3, fun _ => by omega⟩)
theorem markText_loop : ∀ (N n : Nat) (x : ByteArray), n ≤ N → x.size + N ≤ 1000000000000 → ∃ t, Ev (fun k => laws_markText.l0 k (n : Int) x) t
 | 0, n, x, h1, h2 => ⟨_, Ev.step (fun k => rfl) (ev_if_neg (by omega) (ev_if_pos (by omega) (ev_some fun _ => rfl)))⟩
 | N + 1, n, x, h1, h2 => by
  by_cases h : (n : Int) > 0
  ·have e : wrap64 (Int.tdiv (n : Int) 10) = ((n / 10 : Nat) : Int) := by
    rw [show Int.tdiv (n : Int) 10 = ((n / 10 : Nat) : Int) from by rw [Int.tdiv_eq_ediv_of_nonneg (by omega)]; omega, wrap_id (by omega) (by omega)]
   have hz : ∀ y : Int, (strOfNums [y]).size = 1 := fun y => by rw [strOfNums_mk, mkB_size]; rfl
   obtain ⟨t, ht⟩ := markText_loop N (n / 10) (strOfNums [(wrap64 (48 + (Int.tmod (n : Int) 10))) % 256] ++ x) (by omega) (by rw [ByteArray.size_append, hz]; omega)
   refine ⟨t, Ev.step (fun k => rfl) (ev_if_pos h (ev_bind0 rfl (ev_if_pos (by rw [hz]; omega) ?_)))⟩
   rw [e]
   exact ht
  ·exact ⟨_, Ev.step (fun k => rfl) (ev_if_neg h (ev_if_pos (by omega) (ev_some fun _ => rfl)))⟩
theorem markText_ex (n : Nat) (h : n ≤ 100000000000) : ∃ t, Ev (fun k => laws_markText.f k (n : Int)) t := by
 by_cases h0 : (n : Int) ≤ 0
 ·exact ⟨_, Ev.congr (fun k => if_pos h0) (ev_some fun _ => rfl)⟩
 ·obtain ⟨t, ht⟩ := markText_loop n n ⟨#[]⟩ (Nat.le_refl _) (by show 0 + n ≤ _; omega)
  exact ⟨t, Ev.congr (fun k => if_neg h0) ht⟩
open Classical in
noncomputable def mt (n : Nat) : ByteArray := if h : ∃ t, Ev (fun k => laws_markText.f k (n : Int)) t then h.choose else ⟨#[]⟩
theorem mt_is (n : Nat) (h : n ≤ 100000000000) : Ev (fun k => laws_markText.f k (n : Int)) (mt n) := by
 unfold mt
 rw [dif_pos (markText_ex n h)]
 exact (markText_ex n h).choose_spec
noncomputable def mVs : Nat → Nat → List S25
 | 0, _ => []
 | m + 1, n => ⟨(n : Int), ((n + 1 : Nat) : Int), mt (n + 2)⟩ :: mVs m (n + 3)
theorem set_mid {α : Type} (pre : List α) (v y : α) (rest : List α) : (pre ++ v :: rest).set pre.length y = pre ++ y :: rest := by
 induction pre with
 | nil => rfl
 | cons a pre ih => simp [ih]
theorem getD_mid {α : Type} (pre : List α) (v : α) (rest : List α) (z : α) : (pre ++ v :: rest).getD pre.length z = v := by
 induction pre with
 | nil => rfl
 | cons a pre ih => exact ih
theorem wrap_add {a b c : Nat} (h : a + b = c) (hc : c ≤ 1000000000000) : wrap64 ((a : Int) + (b : Int)) = (c : Int) := by rw [wrap_id (by omega) (by omega)]; omega
theorem markV_loop : ∀ (rest pre : List S25) (n : Nat), pre.length + rest.length ≤ 2000000 → n + 3 * rest.length ≤ 1000000000 →
  Ev (fun k => laws_markValueS.l0 k (pre ++ rest) (n : Int) (pre.length : Int)) (((n + 3 * rest.length : Nat) : Int), pre ++ mVs rest.length n)
 | [], pre, n, h1, h2 => Ev.step (fun k => rfl) (ev_if_neg (by simp) (ev_some fun _ => rfl))
 | v :: rest, pre, n, h1, h2 => by
  rw [List.length_cons] at h1 h2
  have w1 : wrap64 ((n : Int) + 1) = ((n + 1 : Nat) : Int) := wrap_add (b := 1) rfl (by omega)
  have w2 : wrap64 (((n + 1 : Nat) : Int) + 1) = ((n + 2 : Nat) : Int) := wrap_add (b := 1) rfl (by omega)
  have w3 : wrap64 (((n + 2 : Nat) : Int) + 1) = ((n + 3 : Nat) : Int) := wrap_add (b := 1) rfl (by omega)
  have w4 : wrap64 ((pre.length : Int) + 1) = ((pre.length + 1 : Nat) : Int) := wrap_add (b := 1) rfl (by omega)
  have g : ∀ y : S25, rd_T25 (pre ++ y :: rest) (pre.length : Int) = y := fun y => by unfold rd_T25; rw [Int.toNat_natCast, getD_mid]
  have ih := markV_loop rest (pre ++ [⟨(n : Int), ((n + 1 : Nat) : Int), mt (n + 2)⟩]) (n + 3) (by rw [List.length_append]; show pre.length + 1 + _ ≤ _; omega) (by omega)
  rw [List.append_assoc, List.singleton_append, List.append_assoc, List.singleton_append, List.length_append, show n + 3 + 3 * rest.length = n + 3 * (rest.length + 1) by omega] at ih
  refine Ev.step (fun k => rfl) (ev_if_pos (by rw [List.length_append, List.length_cons]; omega) (ev_if_pos (by omega) (ev_bind0 rfl (ev_bind0 rfl ?_))))
  simp only [Int.toNat_natCast, g, set_mid, w1, w2, w3, w4]
  exact Ev.bind (mt_is (n + 2) (by omega)) ih
theorem heldV_loop : ∀ (m : Nat) (pre : List S25) (n : Nat), pre.length + m ≤ 1000000 → n + 3 * m ≤ 1000000000 → Ev (fun k => laws_heldValueS.l0 k (pre ++ mVs m n) (n : Int) (pre.length : Int)) ((n + 3 * m : Nat) : Int)
 | 0, pre, n, h1, h2 => Ev.step (fun k => rfl) (ev_if_neg (by simp [mVs]) (ev_some fun _ => rfl))
 | m + 1, pre, n, h1, h2 => by
  have w1 : wrap64 ((n : Int) + 1) = ((n + 1 : Nat) : Int) := wrap_add (b := 1) rfl (by omega)
  have w2 : wrap64 (((n + 1 : Nat) : Int) + 1) = ((n + 2 : Nat) : Int) := wrap_add (b := 1) rfl (by omega)
  have w3 : wrap64 (((n + 2 : Nat) : Int) + 1) = ((n + 3 : Nat) : Int) := wrap_add (b := 1) rfl (by omega)
  have w4 : wrap64 ((pre.length : Int) + 1) = ((pre.length + 1 : Nat) : Int) := wrap_add (b := 1) rfl (by omega)
  have g : rd_T25 (pre ++ mVs (m + 1) n) (pre.length : Int) = ⟨(n : Int), ((n + 1 : Nat) : Int), mt (n + 2)⟩ := by unfold rd_T25; rw [Int.toNat_natCast]; exact getD_mid _ _ _ _
  have ih := heldV_loop m (pre ++ [⟨(n : Int), ((n + 1 : Nat) : Int), mt (n + 2)⟩]) (n + 3) (by rw [List.length_append]; show pre.length + 1 + _ ≤ _; omega) (by omega)
  rw [List.append_assoc, List.singleton_append, List.length_append, show n + 3 + 3 * m = n + 3 * (m + 1) by omega] at ih
  refine Ev.step (fun k => rfl) (ev_if_pos (by rw [List.length_append]; show (pre.length : Int) < ((pre.length + ((mVs m (n + 3)).length + 1) : Nat) : Int); omega) (ev_if_pos (by omega) (ev_if_pos (by rw [g]) (ev_if_pos (by rw [g, w1]) ?_))))
  simp only [g, w1, w2, w3, w4]
  exact Ev.bind (mt_is (n + 2) (by omega)) (ev_if_pos rfl ih)
noncomputable def mCs : List Nat → Nat → List S74
 | [], _ => []
 | l :: ls, n => ⟨mVs l n, ((n + 3 * l : Nat) : Int)⟩ :: mCs ls (n + 3 * l + 1)
def endC : List Nat → Nat → Nat
 | [], n => n
 | l :: ls, n => endC ls (n + 3 * l + 1)
theorem markC_loop : ∀ (rest pre : List S74) (n : Nat), (∀ c ∈ rest, c.f0.length ≤ 12) → pre.length + rest.length ≤ 1000000 → n + 40 * rest.length ≤ 100000000 →
  Ev (fun k => laws_markCountedS.l0 k (pre ++ rest) (n : Int) (pre.length : Int)) ((endC (rest.map fun c => c.f0.length) n : Int), pre ++ mCs (rest.map fun c => c.f0.length) n)
 | [], pre, n, h0, h1, h2 => Ev.step (fun k => rfl) (ev_if_neg (by simp) (ev_some fun _ => rfl))
 | c :: rest, pre, n, h0, h1, h2 => by
  have hc := h0 c (by simp)
  rw [List.length_cons] at h1 h2
  have w3 : wrap64 (((n + 3 * c.f0.length : Nat) : Int) + 1) = ((n + 3 * c.f0.length + 1 : Nat) : Int) := wrap_add (b := 1) rfl (by omega)
  have w4 : wrap64 ((pre.length : Int) + 1) = ((pre.length + 1 : Nat) : Int) := wrap_add (b := 1) rfl (by omega)
  have g : rd_T74 (pre ++ c :: rest) (pre.length : Int) = c := by unfold rd_T74; rw [Int.toNat_natCast, getD_mid]
  have ih := markC_loop rest (pre ++ [⟨mVs c.f0.length n, ((n + 3 * c.f0.length : Nat) : Int)⟩]) (n + 3 * c.f0.length + 1) (fun y hy => h0 y (by simp [hy])) (by rw [List.length_append]; show pre.length + 1 + _ ≤ _; omega) (by omega)
  rw [List.append_assoc, List.singleton_append, List.append_assoc, List.singleton_append, List.length_append] at ih
  have hv := markV_loop c.f0 [] n (by simp; omega) (by omega)
  refine Ev.step (fun k => rfl) (ev_if_pos (by rw [List.length_append, List.length_cons]; omega) (ev_if_pos (by omega) ?_))
  rw [g]
  refine Ev.bind hv ?_
  simp only [Int.toNat_natCast, set_mid, List.nil_append, w3, w4]
  exact ih
theorem heldC_loop : ∀ (ls : List Nat) (pre : List S74) (n : Nat), (∀ l ∈ ls, l ≤ 12) → pre.length + ls.length ≤ 1000000 → n + 40 * ls.length ≤ 100000000 →
  Ev (fun k => laws_heldCountedS.l0 k (pre ++ mCs ls n) (n : Int) (pre.length : Int)) (endC ls n : Int)
 | [], pre, n, h0, h1, h2 => Ev.step (fun k => rfl) (ev_if_neg (by simp [mCs]) (ev_some fun _ => rfl))
 | l :: ls, pre, n, h0, h1, h2 => by
  have hc := h0 l (by simp)
  rw [List.length_cons] at h1 h2
  have w3 : wrap64 (((n + 3 * l : Nat) : Int) + 1) = ((n + 3 * l + 1 : Nat) : Int) := wrap_add (b := 1) rfl (by omega)
  have w4 : wrap64 ((pre.length : Int) + 1) = ((pre.length + 1 : Nat) : Int) := wrap_add (b := 1) rfl (by omega)
  have g : rd_T74 (pre ++ mCs (l :: ls) n) (pre.length : Int) = ⟨mVs l n, ((n + 3 * l : Nat) : Int)⟩ := by unfold rd_T74; rw [Int.toNat_natCast]; exact getD_mid _ _ _ _
  have ih := heldC_loop ls (pre ++ [⟨mVs l n, ((n + 3 * l : Nat) : Int)⟩]) (n + 3 * l + 1) (fun y hy => h0 y (by simp [hy])) (by rw [List.length_append]; show pre.length + 1 + _ ≤ _; omega) (by omega)
  rw [List.append_assoc, List.singleton_append, List.length_append] at ih
  have hv := heldV_loop l [] n (by simp; omega) (by omega)
  refine Ev.step (fun k => rfl) (ev_if_pos (by rw [List.length_append]; show (pre.length : Int) < ((pre.length + ((mCs ls (n + 3 * l + 1)).length + 1) : Nat) : Int); omega) (ev_if_pos (by omega) ?_))
  rw [g]
  refine Ev.bind hv (ev_if_neg (by omega) (ev_if_pos rfl ?_))
  rw [w3, w4]
  exact ih
theorem marks_is (w : Int) (xs : List S74) (hn : xs.length ≤ 400) (hx : ∀ c ∈ xs, c.f0.length ≤ 12) :
  ∃ (e : Int) (ys : List S74), Ev (fun k => laws_markBag.f k w xs 1) (e, ys) ∧ Ev (fun k => laws_heldBag.f k w ys 1) e ∧ 0 ≤ e := by
 have h1 := markC_loop xs [] 1 hx (by simp; omega) (by omega)
 have h2 := heldC_loop (xs.map fun c => c.f0.length) [] 1 (fun l hl => by
  obtain ⟨c, hc, rfl⟩ := List.mem_map.1 hl
  exact hx c hc) (by simp; omega) (by simp; omega)
 exact ⟨_, _, h1, Ev.bind h2 (ev_if_neg (by omega) (ev_some fun _ => rfl)), by omega⟩
theorem bl_cons (a b : UInt8) (l m : List UInt8) : Op.bytesLess (a :: l) (b :: m) = (decide (a < b) || (a == b && Op.bytesLess l m)) := by rw [Op.bytesLess]
theorem bl_nil (l : List UInt8) : Op.bytesLess l [] = false := by cases l <;> rfl
theorem bl_irrefl : ∀ l, Op.bytesLess l l = false
 | [] => rfl
 | a :: l => by
  rw [bl_cons, bl_irrefl l]
  simp
theorem bl_tri : ∀ l m, Op.bytesLess l m = true ∨ l = m ∨ Op.bytesLess m l = true
 | [], [] => Or.inr (Or.inl rfl)
 | [], _ :: _ => Or.inl rfl
 | _ :: _, [] => Or.inr (Or.inr rfl)
 | a :: l, b :: m => by
  rw [bl_cons, bl_cons]
  rcases Nat.lt_trichotomy a.toNat b.toNat with h | h | h
  ·exact Or.inl (by rw [show decide (a < b) = true from decide_eq_true h, Bool.true_or])
  ·have e : a = b := UInt8.toNat_inj.1 h
   subst e
   rcases bl_tri l m with g | g | g
   ·exact Or.inl (by simp [g])
   ·exact Or.inr (Or.inl (by rw [g]))
   ·exact Or.inr (Or.inr (by simp [g]))
  ·exact Or.inr (Or.inr (by rw [show decide (b < a) = true from decide_eq_true h, Bool.true_or]))
theorem bl_trans : ∀ {l m n : List UInt8}, Op.bytesLess l m = true → Op.bytesLess m n = true → Op.bytesLess l n = true
 | _, [], _, h, _ => by rw [bl_nil] at h; cases h
 | _, _ :: _, [], _, h => by rw [bl_nil] at h; cases h
 | [], _ :: _, _ :: _, _, _ => rfl
 | a :: l, b :: m, c :: n, h, g => by
  rw [bl_cons, Bool.or_eq_true, decide_eq_true_eq, Bool.and_eq_true, beq_iff_eq] at *
  rcases h with h | ⟨rfl, h⟩
  ·rcases g with g | ⟨rfl, g⟩
   ·exact Or.inl (Nat.lt_trans h g)
   ·exact Or.inl h
  ·rcases g with g | ⟨rfl, g⟩
   ·exact Or.inl g
   ·exact Or.inr ⟨rfl, bl_trans h g⟩
theorem bl_asymm {l m : List UInt8} (h : Op.bytesLess l m = true) : Op.bytesLess m l = false := by
 cases g : Op.bytesLess m l with
 | false => rfl
 | true => exact absurd (bl_trans h g) (by rw [bl_irrefl]; simp)
def ltV (a b : Int) (s : List UInt8) (a' b' : Int) (s' : List UInt8) : Prop := a < a' ∨ (a = a' ∧ (b < b' ∨ (b = b' ∧ Op.bytesLess s s' = true)))
theorem cmpV_cases (a b : Int) (s : ByteArray) (a' b' : Int) (s' : ByteArray) :
  (cmpV a b s a' b' s' = -1 ∧ ltV a b s.toList a' b' s'.toList) ∨ (cmpV a b s a' b' s' = 0 ∧ a = a' ∧ b = b' ∧ s.toList = s'.toList) ∨ (cmpV a b s a' b' s' = 1 ∧ ltV a' b' s'.toList a b s.toList) := by
 unfold cmpV ltV
 by_cases h1 : a < a'
 ·rw [if_pos h1]; exact Or.inl ⟨rfl, Or.inl h1⟩
 rw [if_neg h1]
 by_cases h2 : a' < a
 ·rw [if_pos h2]; exact Or.inr (Or.inr ⟨rfl, Or.inl h2⟩)
 rw [if_neg h2]
 have e1 : a = a' := by omega
 by_cases h3 : b < b'
 ·rw [if_pos h3]; exact Or.inl ⟨rfl, Or.inr ⟨e1, Or.inl h3⟩⟩
 rw [if_neg h3]
 by_cases h4 : b' < b
 ·rw [if_pos h4]; exact Or.inr (Or.inr ⟨rfl, Or.inr ⟨e1.symm, Or.inl h4⟩⟩)
 rw [if_neg h4]
 have e2 : b = b' := by omega
 rcases bl_tri s.toList s'.toList with h | h | h
 ·rw [if_pos h]; exact Or.inl ⟨rfl, Or.inr ⟨e1, Or.inr ⟨e2, h⟩⟩⟩
 ·rw [h, bl_irrefl]; exact Or.inr (Or.inl ⟨by simp, e1, e2, rfl⟩)
 ·have hn : s.toList ≠ s'.toList := fun e => by rw [e, bl_irrefl] at h; cases h
  rw [bl_asymm h, if_neg (by simp), if_neg (by simp [hn])]
  exact Or.inr (Or.inr ⟨rfl, Or.inr ⟨e1.symm, Or.inr ⟨e2.symm, h⟩⟩⟩)
theorem ltV_trans {a b c : Int} {a' b' c' : Int} {s t u : List UInt8} (h : ltV a a' s b b' t) (g : ltV b b' t c c' u) : ltV a a' s c c' u := by
 unfold ltV at *
 rcases h with h | ⟨rfl, h | ⟨rfl, h⟩⟩
 ·rcases g with g | ⟨rfl, _⟩
  ·exact Or.inl (by omega)
  ·exact Or.inl h
 ·rcases g with g | ⟨rfl, g | ⟨rfl, g⟩⟩
  ·exact Or.inl g
  ·exact Or.inr ⟨rfl, Or.inl (by omega)⟩
  ·exact Or.inr ⟨rfl, Or.inl h⟩
 ·rcases g with g | ⟨rfl, g | ⟨rfl, g⟩⟩
  ·exact Or.inl g
  ·exact Or.inr ⟨rfl, Or.inl g⟩
  ·exact Or.inr ⟨rfl, Or.inr ⟨rfl, bl_trans h g⟩⟩
theorem ltV_irrefl {a b : Int} {s : List UInt8} : ¬ ltV a b s a b s := by
 unfold ltV
 rintro (h | ⟨_, h | ⟨_, h⟩⟩)
 ·omega
 ·omega
 ·rw [bl_irrefl] at h; cases h
theorem ba_eq {s t : ByteArray} (h : s.toList = t.toList) : s = t := by
 rw [toList_data, toList_data] at h
 cases s; cases t
 exact congrArg ByteArray.mk (Array.ext' h)
theorem cmpW_eq {x y : S25} (h : cmpW x y = 0) : x = y := by
 rcases cmpV_cases x.f0 x.f1 x.f2 y.f0 y.f1 y.f2 with ⟨e, _⟩ | ⟨_, e1, e2, e3⟩ | ⟨e, _⟩
 ·exact absurd (h.symm.trans e) (by decide)
 ·have e4 := ba_eq e3
  cases x; cases y
  dsimp only at e1 e2 e4
  subst e1; subst e2; subst e4; rfl
 ·exact absurd (h.symm.trans e) (by decide)
theorem cmpW_self (x : S25) : cmpW x x = 0 := by
 rcases cmpV_cases x.f0 x.f1 x.f2 x.f0 x.f1 x.f2 with ⟨_, e⟩ | ⟨e, _⟩ | ⟨_, e⟩
 ·exact absurd e ltV_irrefl
 ·exact e
 ·exact absurd e ltV_irrefl
theorem cmpW_flip (x y : S25) : cmpW y x = -cmpW x y := by
 unfold cmpW
 rcases cmpV_cases x.f0 x.f1 x.f2 y.f0 y.f1 y.f2 with ⟨e, h⟩ | ⟨e, e1, e2, h⟩ | ⟨e, h⟩
 ·rcases cmpV_cases y.f0 y.f1 y.f2 x.f0 x.f1 x.f2 with ⟨f, g⟩ | ⟨f, g1, g2, g3⟩ | ⟨f, g⟩
  ·exact absurd (ltV_trans h g) ltV_irrefl
  ·rw [g1, g2, g3] at h; exact absurd h ltV_irrefl
  ·rw [e, f]; rfl
 ·rcases cmpV_cases y.f0 y.f1 y.f2 x.f0 x.f1 x.f2 with ⟨f, g⟩ | ⟨f, g1, g2, g3⟩ | ⟨f, g⟩
  ·rw [e1, e2, h] at g; exact absurd g ltV_irrefl
  ·rw [e, f]; rfl
  ·rw [e1, e2, h] at g; exact absurd g ltV_irrefl
 ·rcases cmpV_cases y.f0 y.f1 y.f2 x.f0 x.f1 x.f2 with ⟨f, g⟩ | ⟨f, g1, g2, g3⟩ | ⟨f, g⟩
  ·rw [e, f]
  ·rw [g1, g2, g3] at h; exact absurd h ltV_irrefl
  ·exact absurd (ltV_trans h g) ltV_irrefl
theorem cmpW_lt {x y : S25} (h : cmpW x y < 0) : ltV x.f0 x.f1 x.f2.toList y.f0 y.f1 y.f2.toList := by
 unfold cmpW at h
 rcases cmpV_cases x.f0 x.f1 x.f2 y.f0 y.f1 y.f2 with ⟨_, e⟩ | ⟨e, _⟩ | ⟨e, _⟩
 ·exact e
 ·rw [e] at h; exact absurd h (by decide)
 ·rw [e] at h; exact absurd h (by decide)
theorem cmpW_trans {x y z : S25} (h : cmpW x y < 0) (g : cmpW y z < 0) : cmpW x z < 0 := by
 have k := ltV_trans (cmpW_lt h) (cmpW_lt g)
 unfold cmpW
 rcases cmpV_cases x.f0 x.f1 x.f2 z.f0 z.f1 z.f2 with ⟨e, _⟩ | ⟨e, e1, e2, e3⟩ | ⟨e, e'⟩
 ·rw [e]; decide
 ·rw [e1, e2, e3] at k; exact absurd k ltV_irrefl
 ·exact absurd (ltV_trans k e') ltV_irrefl
theorem cmpRow_self : ∀ x, cmpRow x x = 0
 | [] => rfl
 | x :: xs => by
  show (if cmpW x x = 0 then cmpRow xs xs else cmpW x x) = 0
  rw [if_pos (cmpW_self x)]
  exact cmpRow_self xs
theorem cmpRow_cons (x y : S25) (xs ys : List S25) : cmpRow (x :: xs) (y :: ys) = if cmpW x y = 0 then cmpRow xs ys else cmpW x y := rfl
theorem cmpRow_eq : ∀ {x y}, cmpRow x y = 0 → x = y
 | [], [], _ => rfl
 | [], _ :: _, h => absurd h (by show ¬ (-1 : Int) = 0; decide)
 | _ :: _, [], h => absurd h (by show ¬ (1 : Int) = 0; decide)
 | x :: xs, y :: ys, h => by
  rw [cmpRow_cons] at h
  by_cases e : cmpW x y = 0
  ·rw [if_pos e] at h
   rw [cmpW_eq e, cmpRow_eq h]
  ·rw [if_neg e] at h; exact absurd h e
theorem cmpRow_flip : ∀ x y, cmpRow y x = -cmpRow x y
 | [], [] => rfl
 | [], _ :: _ => rfl
 | _ :: _, [] => rfl
 | x :: xs, y :: ys => by
  rw [cmpRow_cons, cmpRow_cons, cmpW_flip x y]
  by_cases e : cmpW x y = 0
  ·rw [if_pos e, if_pos (by omega)]; exact cmpRow_flip xs ys
  ·rw [if_neg e, if_neg (by omega)]
theorem cmpRow_trans : ∀ {x y z}, cmpRow x y < 0 → cmpRow y z < 0 → cmpRow x z < 0
 | [], [], _, h, _ => absurd h (by decide)
 | _, _ :: _, [], _, g => absurd g (by show ¬ (1 : Int) < 0; decide)
 | _ :: _, [], _, h, _ => absurd h (by show ¬ (1 : Int) < 0; decide)
 | [], _ :: _, _ :: _, _, _ => (by show (-1 : Int) < 0; decide)
 | x :: xs, y :: ys, z :: zs, h, g => by
  rw [cmpRow_cons] at *
  by_cases e1 : cmpW x y = 0
  ·rw [if_pos e1] at h
   rw [cmpW_eq e1]
   by_cases e2 : cmpW y z = 0
   ·rw [if_pos e2] at g ⊢; exact cmpRow_trans h g
   ·rw [if_neg e2] at g ⊢; exact g
  ·rw [if_neg e1] at h
   by_cases e2 : cmpW y z = 0
   ·rw [← cmpW_eq e2, if_neg e1]; exact h
   ·rw [if_neg e2] at g
    have := cmpW_trans h g
    rw [if_neg (by omega)]; exact this
theorem cmpRow_le_trans {x y z} (h : cmpRow x y ≤ 0) (g : cmpRow y z ≤ 0) : cmpRow x z ≤ 0 := by
 by_cases e1 : cmpRow x y = 0
 ·rw [cmpRow_eq e1]; exact g
 by_cases e2 : cmpRow y z = 0
 ·rw [← cmpRow_eq e2]; exact h
 have := cmpRow_trans (x := x) (y := y) (z := z) (by omega) (by omega)
 omega
theorem cmpRow_lt_le {x y z} (h : cmpRow x y < 0) (g : cmpRow y z ≤ 0) : cmpRow x z < 0 := by
 by_cases e2 : cmpRow y z = 0
 ·rw [← cmpRow_eq e2]; exact h
 exact cmpRow_trans h (by omega)
def sumN (r : List S25) : List S74 → Int
 | [] => 0
 | c :: S => (if cmpRow c.f0 r = 0 then c.f1 else 0) + sumN r S
def Rise (S : List S74) : Prop := S.Pairwise (fun a b => cmpRow a.f0 b.f0 < 0)
def In64 (x : Int) : Prop := -9223372036854775808 ≤ x ∧ x ≤ 9223372036854775807
def Canon (S : List S74) : Prop := Rise S ∧ ∀ c ∈ S, c.f1 ≠ 0 ∧ In64 c.f1
theorem in64_wrap (x : Int) : In64 (wrap64 x) := by unfold In64 wrap64; omega
theorem sumN_append (r : List S25) : ∀ (A B : List S74), sumN r (A ++ B) = sumN r A + sumN r B
 | [], B => by show sumN r B = 0 + sumN r B; omega
 | a :: A, B => by
  show (if cmpRow a.f0 r = 0 then a.f1 else 0) + sumN r (A ++ B) = (if cmpRow a.f0 r = 0 then a.f1 else 0) + sumN r A + sumN r B
  rw [sumN_append r A B]; omega
theorem sumN_perm (r : List S25) {A B : List S74} (h : A.Perm B) : sumN r A = sumN r B := by
 induction h with
 | nil => rfl
 | cons x _ ih => show _ + sumN r _ = _ + sumN r _; rw [ih]
 | swap x y l => show _ + (_ + sumN r l) = _ + (_ + sumN r l); omega
 | trans _ _ h1 h2 => exact h1.trans h2
theorem sumN_above {r : List S25} : ∀ {S : List S74}, (∀ c ∈ S, cmpRow r c.f0 < 0) → sumN r S = 0
 | [], _ => rfl
 | c :: S, h => by
  have h1 := h c List.mem_cons_self
  have h2 := cmpRow_flip r c.f0
  show (if cmpRow c.f0 r = 0 then c.f1 else 0) + sumN r S = 0
  rw [if_neg (by omega), sumN_above fun c' hc => h c' (List.mem_cons_of_mem _ hc)]
  omega
theorem sumN_head {a : S74} {A : List S74} (h : Rise (a :: A)) : sumN a.f0 (a :: A) = a.f1 := by
 show (if cmpRow a.f0 a.f0 = 0 then a.f1 else 0) + sumN a.f0 A = a.f1
 rw [if_pos (cmpRow_self _), sumN_above (List.pairwise_cons.1 h).1]
 omega
theorem sumN_low {r : List S25} {a : S74} {A : List S74} (h : Rise (a :: A)) (hr : cmpRow r a.f0 < 0) : sumN r (a :: A) = 0 :=
 sumN_above fun c hc => by
  rcases List.mem_cons.1 hc with rfl | hc
  ·exact hr
  ·exact cmpRow_trans hr ((List.pairwise_cons.1 h).1 c hc)
theorem canon_tail {a : S74} {A : List S74} (h : Canon (a :: A)) : Canon A := ⟨(List.pairwise_cons.1 h.1).2, fun c hc => h.2 c (List.mem_cons_of_mem _ hc)⟩
theorem canon_unique : ∀ {A B : List S74}, Canon A → Canon B → (∀ r, (sumN r A - sumN r B) % 18446744073709551616 = 0) → A = B
 | [], [], _, _, _ => rfl
 | [], b :: B, _, hB, h => by
  have h1 := h b.f0
  rw [sumN_head hB.1, show sumN b.f0 [] = 0 from rfl] at h1
  obtain ⟨h2, h3⟩ := hB.2 b List.mem_cons_self
  unfold In64 at h3
  omega
 | a :: A, [], hA, _, h => by
  have h1 := h a.f0
  rw [sumN_head hA.1, show sumN a.f0 [] = 0 from rfl] at h1
  obtain ⟨h2, h3⟩ := hA.2 a List.mem_cons_self
  unfold In64 at h3
  omega
 | a :: A, b :: B, hA, hB, h => by
  obtain ⟨a2, a3⟩ := hA.2 a List.mem_cons_self
  obtain ⟨b2, b3⟩ := hB.2 b List.mem_cons_self
  unfold In64 at a3 b3
  have hf := cmpRow_flip a.f0 b.f0
  by_cases c1 : cmpRow a.f0 b.f0 < 0
  ·have h1 := h a.f0
   rw [sumN_head hA.1, sumN_low hB.1 c1] at h1
   omega
  by_cases c2 : cmpRow b.f0 a.f0 < 0
  ·have h1 := h b.f0
   rw [sumN_head hB.1, sumN_low hA.1 c2] at h1
   omega
  have e0 : a.f0 = b.f0 := cmpRow_eq (by omega)
  have e1 : a.f1 = b.f1 := by
   have h1 := h a.f0
   rw [sumN_head hA.1] at h1
   rw [e0, sumN_head hB.1] at h1
   omega
  have e : a = b := by cases a; cases b; dsimp only at e0 e1; subst e0; subst e1; rfl
  subst e
  rw [canon_unique (canon_tail hA) (canon_tail hB) fun r => by
   have h1 := h r
   show (sumN r A - sumN r B) % _ = 0
   have e1 : sumN r (a :: A) = (if cmpRow a.f0 r = 0 then a.f1 else 0) + sumN r A := rfl
   have e2 : sumN r (a :: B) = (if cmpRow a.f0 r = 0 then a.f1 else 0) + sumN r B := rfl
   rw [e1, e2] at h1
   omega]
def putL (r : List S25) (n : Int) : List S74 → List S74
 | [] => if n = 0 then [] else [⟨r, n⟩]
 | c :: S => if cmpRow c.f0 r < 0 then c :: putL r n S else if cmpRow c.f0 r = 0 then (if wrap64 (n + c.f1) = 0 then S else ⟨c.f0, wrap64 (n + c.f1)⟩ :: S) else (if n = 0 then c :: S else ⟨r, n⟩ :: c :: S)
theorem putL_all (Q : List S25 → Prop) (r : List S25) (n : Int) (hr : Q r) : ∀ (S : List S74), (∀ c ∈ S, Q c.f0) → ∀ c ∈ putL r n S, Q c.f0
 | [], _ => by
  unfold putL
  split
  ·intro c hc; cases hc
  ·intro c hc; rw [List.mem_singleton.1 hc]; exact hr
 | c :: S, h => by
  have ih := putL_all Q r n hr S fun c' hc => h c' (List.mem_cons_of_mem _ hc)
  have h0 := h c List.mem_cons_self
  unfold putL
  split
  ·intro c' hc
   rcases List.mem_cons.1 hc with rfl | hc
   ·exact h0
   ·exact ih c' hc
  ·split
   ·split
    ·exact fun c' hc => h c' (List.mem_cons_of_mem _ hc)
    ·intro c' hc
     rcases List.mem_cons.1 hc with rfl | hc
     ·exact h0
     ·exact h c' (List.mem_cons_of_mem _ hc)
   ·split
    ·exact h
    ·intro c' hc
     rcases List.mem_cons.1 hc with rfl | hc
     ·exact hr
     ·exact h c' hc
theorem putL_length (r : List S25) (n : Int) : ∀ (S : List S74), (putL r n S).length ≤ S.length + 1
 | [] => by unfold putL; split <;> simp
 | c :: S => by
  have ih := putL_length r n S
  unfold putL
  split
  ·simp only [List.length_cons]; omega
  ·split
   ·split <;> simp only [List.length_cons] <;> omega
   ·split <;> simp only [List.length_cons] <;> omega
theorem putL_canon (r : List S25) (n : Int) (hn : In64 n) : ∀ (S : List S74), Canon S → Canon (putL r n S)
 | [], _ => by
  unfold putL
  split
  ·exact ⟨List.Pairwise.nil, fun c hc => by cases hc⟩
  ·rename_i h
   exact ⟨List.pairwise_singleton _ _, fun c hc => by rw [List.mem_singleton.1 hc]; exact ⟨h, hn⟩⟩
 | c :: S, h => by
  have ih := putL_canon r n hn S (canon_tail h)
  have h0 := h.2 c List.mem_cons_self
  have hp := List.pairwise_cons.1 h.1
  unfold putL
  split
  ·rename_i hlt
   refine ⟨List.pairwise_cons.2 ⟨putL_all (fun x => cmpRow c.f0 x < 0) r n hlt S hp.1, ih.1⟩, fun c' hc => ?_⟩
   rcases List.mem_cons.1 hc with rfl | hc
   ·exact h0
   ·exact ih.2 c' hc
  ·split
   ·split
    ·exact canon_tail h
    ·rename_i hw
     refine ⟨List.pairwise_cons.2 ⟨hp.1, hp.2⟩, fun c' hc => ?_⟩
     rcases List.mem_cons.1 hc with rfl | hc
     ·exact ⟨hw, in64_wrap _⟩
     ·exact h.2 c' (List.mem_cons_of_mem _ hc)
   ·split
    ·exact h
    ·rename_i g1 g2 g3
     have hf := cmpRow_flip c.f0 r
     have hrc : cmpRow r c.f0 < 0 := by omega
     refine ⟨List.pairwise_cons.2 ⟨fun c' hc => ?_, h.1⟩, fun c' hc => ?_⟩
     ·rcases List.mem_cons.1 hc with rfl | hc
      ·exact hrc
      ·exact cmpRow_trans hrc (hp.1 c' hc)
     ·rcases List.mem_cons.1 hc with rfl | hc
      ·exact ⟨g3, hn⟩
      ·exact h.2 c' hc
theorem putL_sum (r : List S25) (n : Int) (q : List S25) : ∀ (S : List S74), (sumN q (putL r n S) - (sumN q S + (if cmpRow r q = 0 then n else 0))) % 18446744073709551616 = 0
 | [] => by
  unfold putL
  split
  ·rename_i h; subst h; show (0 - (0 + ite _ _ _)) % _ = (0 : Int); split <;> omega
  ·show ((ite _ _ _ + 0) - (0 + ite _ _ _)) % _ = (0 : Int); dsimp only; omega
 | c :: S => by
  have ih := putL_sum r n q S
  have e0 : ∀ (x : S74) (T : List S74), sumN q (x :: T) = (if cmpRow x.f0 q = 0 then x.f1 else 0) + sumN q T := fun _ _ => rfl
  unfold putL
  split
  ·rw [e0, e0]; omega
  ·split
   ·rename_i h1 h2
    have e := cmpRow_eq h2
    split
    ·rename_i h3
     rw [e0, e]
     split
     ·unfold wrap64 at h3; omega
     ·omega
    ·rw [e0, e0]
     dsimp only
     rw [e]
     split
     ·unfold wrap64; omega
     ·omega
   ·split
    ·rename_i h3; subst h3; split <;> omega
    ·rw [e0, e0]; dsimp only; omega
theorem copyRow_is (r : List S25) (h : r.length ≤ 2000000) : spec_l02CopyRow.f r = some r := by
 unfold spec_l02CopyRow.f
 rw [Option.bind_some, if_pos (by simp; omega), List.nil_append]
theorem putL_take (r : List S25) (n : Int) : ∀ (lo : Nat) (S : List S74), lo ≤ S.length → (∀ i, i < lo → cmpRow (S.getD i z74).f0 r < 0) → putL r n S = S.take lo ++ putL r n (S.drop lo)
 | 0, S, _, _ => rfl
 | lo + 1, [], h, _ => absurd h (by simp)
 | lo + 1, c :: S, h, hi => by
  have h0 := hi 0 (by omega)
  show putL r n (c :: S) = c :: (S.take lo ++ putL r n (S.drop lo))
  rw [← putL_take r n lo S (by simpa using h) fun i hl => by have := hi (i + 1) (by omega); simpa using this]
  show (if cmpRow c.f0 r < 0 then _ else _) = _
  rw [if_pos (show cmpRow c.f0 r < 0 by simpa using h0)]
theorem put_tailL (W : Int) (xs : List S74) (hn : xs.length ≤ 1200000) (row : List S25) (hr : row.length ≤ 2000000) (a : Int) (lo : Nat) (hlo : lo ≤ xs.length)
  (h1 : ∀ i, i < lo → cmpRow (xs.getD i z74).f0 row < 0) (q : Bool) (hq : q = true → lo < xs.length ∧ cmpRow (xs.getD lo z74).f0 row = 0) (hq' : q = false → lo < xs.length → cmpRow (xs.getD lo z74).f0 row > 0) :
  Ev (fun k => spec_l02Put.j1 k row a (lo : Int) q W xs) (W, putL row a xs) := by
 have hj := fun (q : Bool) (k : Nat) => (show spec_l02Put.j1 (k + 1) row a (lo : Int) q W xs = ite (q = true) (ite (0 ≤ (lo : Int)) (ite ((lo : Int) < (xs.length : Int)) (ite (wrap64 (a + (rd_T74 xs (lo : Int)).f1) = 0) _ (some (W, (xs.set ((lo : Int)).toNat (⟨(rd_T74 xs (lo : Int)).f0, wrap64 (a + (rd_T74 xs (lo : Int)).f1)⟩ : S74))))) none) none) (ite (a = 0) (some (W, xs)) _) from rfl)
 have erd : rd_T74 xs (lo : Int) = xs.getD lo z74 := rfl
 rw [putL_take row a lo xs hlo h1]
 cases q with
 | true =>
  obtain ⟨hl, hc⟩ := hq rfl
  rw [drop_cons_getD z74 hl]
  have ep : putL row a (xs.getD lo z74 :: xs.drop (lo + 1)) = if wrap64 (a + (xs.getD lo z74).f1) = 0 then xs.drop (lo + 1) else ⟨(xs.getD lo z74).f0, wrap64 (a + (xs.getD lo z74).f1)⟩ :: xs.drop (lo + 1) := by
   show (if cmpRow (xs.getD lo z74).f0 row < 0 then _ else if cmpRow (xs.getD lo z74).f0 row = 0 then _ else _) = _
   rw [if_neg (by omega), if_pos hc]
  rw [ep]
  by_cases h0 : wrap64 (a + (rd_T74 xs (lo : Int)).f1) = 0
  ·have w1 : wrap64 ((lo : Int) + 1) = ((lo + 1 : Nat) : Int) := by rw [wrap_id (by omega) (by omega)]; omega
   rw [if_pos (by rw [← erd]; exact h0)]
   refine Ev.step (fun k => (hj true k).trans ((if_pos rfl).trans ((if_pos (by omega)).trans ((if_pos (by omega)).trans (if_pos h0))))) (ev_bind0 rfl (ev_if_pos (by omega) (ev_bind0 rfl (ev_if_pos (by simp; omega) (ev_bind0 rfl (ev_if_pos (by rw [w1]; omega) (ev_if_pos (by rw [w1]; omega) (ev_bind0 rfl (ev_if_pos (by simp; omega) (ev_some fun _ => ?_))))))))))
   rw [w1, Int.toNat_natCast, Int.toNat_natCast, List.nil_append]
  ·rw [if_neg (by rw [← erd]; exact h0)]
   refine Ev.step (fun k => (hj true k).trans ((if_pos rfl).trans ((if_pos (by omega)).trans ((if_pos (by omega)).trans (if_neg h0))))) (ev_some fun _ => ?_)
   rw [erd, Int.toNat_natCast, List.set_eq_take_append_cons_drop, if_pos hl]
 | false =>
  have ep : putL row a (xs.drop lo) = if a = 0 then xs.drop lo else ⟨row, a⟩ :: xs.drop lo := by
   by_cases hl : lo < xs.length
   ·have hc := hq' rfl hl
    rw [drop_cons_getD z74 hl]
    show (if cmpRow (xs.getD lo z74).f0 row < 0 then _ else if cmpRow (xs.getD lo z74).f0 row = 0 then _ else _) = _
    rw [if_neg (by omega), if_neg (by omega)]
   ·rw [List.drop_eq_nil_of_le (by omega)]; rfl
  rw [ep]
  by_cases h0 : a = 0
  ·rw [if_pos h0, List.take_append_drop]
   exact Ev.step (fun k => (hj false k).trans ((if_neg Bool.false_ne_true).trans (if_pos h0))) (ev_some fun _ => rfl)
  ·rw [if_neg h0]
   refine Ev.step (fun k => (hj false k).trans ((if_neg Bool.false_ne_true).trans (if_neg h0))) (ev_bind0 rfl (ev_if_pos (by omega) (ev_if_pos (by omega) (ev_bind0 rfl (ev_if_pos (by simp; omega) (ev_bind0 rfl (ev_bind0 (copyRow_is row hr) (ev_if_pos (by simp; omega) (ev_bind0 rfl (ev_bind0 rfl (ev_if_pos (by simp; omega) (ev_some fun _ => ?_))))))))))))
   rw [Int.toNat_natCast, List.nil_append, List.append_assoc]
   rfl
theorem rise_get {xs : List S74} (h : Rise xs) {i j : Nat} (hij : i < j) (hj : j < xs.length) : cmpRow (xs.getD i z74).f0 (xs.getD j z74).f0 < 0 := by
 have := List.pairwise_iff_getElem.1 h i j (by omega) hj hij
 rw [List.getD_eq_getElem?_getD, List.getD_eq_getElem?_getD, List.getElem?_eq_getElem hj, List.getElem?_eq_getElem (by omega : i < xs.length)]
 exact this
theorem putL_is (W : Int) (xs : List S74) (hn : xs.length ≤ 1200000) (hx : ∀ c ∈ xs, c.f0.length ≤ 2000000) (hR : Rise xs) (row : List S25) (hr : row.length ≤ 2000000) (a : Int) :
  Ev (fun k => spec_l02Put.f k W xs row a) (W, putL row a xs) := by
 have len : ∀ j, j < xs.length → (xs.getD j z74).f0.length ≤ 9223372036854775807 := fun j hj => by have := hx _ (getD_mem z74 hj); omega
 have fin : ∀ (lo hi : Nat), lo = hi → hi ≤ xs.length → (∀ i, i < lo → cmpRow (xs.getD i z74).f0 row < 0) → (∀ i, hi ≤ i → i < xs.length → ¬ cmpRow (xs.getD i z74).f0 row < 0) → Ev (fun k => spec_l02Put.l0 k row a (lo : Int) (hi : Int) W xs) (W, putL row a xs) := by
  intro lo hi h2 h3 g1 g2
  subst h2
  by_cases hl : lo < xs.length
  ·have hc := g2 lo (Nat.le_refl _) hl
   exact Ev.step (fun k => rfl) (ev_if_neg (by omega) (ev_if_pos (by omega) (ev_if_pos (by omega) (Ev.bind (specCompareRow_is (xs.getD lo z74).f0 row (len lo hl)) (put_tailL W xs hn row hr a lo (by omega) g1 (cmpRow (xs.getD lo z74).f0 row == 0) (fun h => ⟨hl, by simpa using h⟩) (fun h _ => by
    have : ¬ cmpRow (xs.getD lo z74).f0 row = 0 := by simpa using h
    omega))))))
  ·exact Ev.step (fun k => rfl) (ev_if_neg (by omega) (ev_if_neg (by omega) (put_tailL W xs hn row hr a lo (by omega) g1 false (fun h => by cases h) (fun _ h => absurd h hl))))
 have loop : ∀ (m lo hi : Nat), hi - lo ≤ m → lo ≤ hi → hi ≤ xs.length → (∀ i, i < lo → cmpRow (xs.getD i z74).f0 row < 0) → (∀ i, hi ≤ i → i < xs.length → ¬ cmpRow (xs.getD i z74).f0 row < 0) → Ev (fun k => spec_l02Put.l0 k row a (lo : Int) (hi : Int) W xs) (W, putL row a xs) := by
  intro m
  induction m with
  | zero => exact fun lo hi h1 h2 h3 g1 g2 => fin lo hi (by omega) h3 g1 g2
  | succ m ih =>
   intro lo hi h1 h2 h3 g1 g2
   by_cases hlt : lo < hi
   case neg => exact fin lo hi (by omega) h3 g1 g2
   obtain ⟨mid, hm⟩ : ∃ mid, mid = (lo + hi) / 2 := ⟨_, rfl⟩
   have e : wrap64 (Int.tdiv (wrap64 ((lo : Int) + (hi : Int))) 2) = (mid : Int) := by
    rw [wrap_id (x := (lo : Int) + (hi : Int)) (by omega) (by omega), Int.tdiv_eq_ediv_of_nonneg (by omega), wrap_id (by omega) (by omega)]
    omega
   have em : wrap64 ((mid : Int) + 1) = ((mid + 1 : Nat) : Int) := by rw [wrap_id (by omega) (by omega)]; omega
   have top : ∀ r, Ev (fun k => (spec_CompareRow.f k (xs.getD mid z74).f0 row).bind fun t => (if t < 0 then (spec_l02Put.l0 k row a (wrap64 ((mid : Int) + 1)) (hi : Int) W xs) else (spec_l02Put.l0 k row a (lo : Int) (mid : Int) W xs))) r → Ev (fun k => spec_l02Put.l0 k row a (lo : Int) (hi : Int) W xs) r := fun r hr' => by
    refine Ev.step (fun k => rfl) (ev_if_pos (by omega) ?_)
    rw [e]
    exact ev_if_pos (by omega) (ev_if_pos (by omega) hr')
   have cr := specCompareRow_is (xs.getD mid z74).f0 row (len mid (by omega))
   by_cases hc : cmpRow (xs.getD mid z74).f0 row < 0
   ·refine top _ (Ev.bind cr (ev_if_pos hc ?_))
    rw [em]
    refine ih (mid + 1) hi (by omega) (by omega) h3 (fun i hi' => ?_) g2
    by_cases him : i = mid
    ·rw [him]; exact hc
    ·exact cmpRow_trans (rise_get hR (show i < mid by omega) (by omega)) hc
   ·refine top _ (Ev.bind cr (ev_if_neg hc (ih lo mid (by omega) (by omega) (by omega) g1 fun i h5 h6 => ?_)))
    by_cases him : i = mid
    ·rw [him]; exact hc
    ·exact fun h7 => hc (cmpRow_trans (rise_get hR (show mid < i by omega) h6) h7)
 exact loop xs.length 0 xs.length (by omega) (by omega) (by omega) (fun i h => absurd h (by omega)) (fun i h h' => absurd h' (by omega))
theorem wrap_ex (x : Int) : ∃ d, wrap64 x = x + d * 18446744073709551616 := ⟨-((x + 9223372036854775808) / 18446744073709551616), by unfold wrap64; omega⟩
def grp (r : List S25) (n : Int) : List S74 → List S74
 | [] => if n = 0 then [] else [⟨r, n⟩]
 | c :: S => if cmpRow c.f0 r = 0 then grp r (wrap64 (n + c.f1)) S else (if n = 0 then [] else [⟨r, n⟩]) ++ grp c.f0 (wrap64 (0 + c.f1)) S
def gath : List S74 → List S74
 | [] => []
 | c :: S => grp c.f0 (wrap64 (0 + c.f1)) S
def Srt (S : List S74) : Prop := S.Pairwise (fun a b => cmpRow a.f0 b.f0 ≤ 0)
theorem grp_all (Q : List S25 → Prop) : ∀ (S : List S74) (r : List S25) (n : Int), Q r → (∀ c ∈ S, Q c.f0) → ∀ c ∈ grp r n S, Q c.f0
 | [], r, n, hr, _ => by
  unfold grp
  split
  ·intro c hc; cases hc
  ·intro c hc; rw [List.mem_singleton.1 hc]; exact hr
 | c :: S, r, n, hr, h => by
  have hS : ∀ c' ∈ S, Q c'.f0 := fun c' hc => h c' (List.mem_cons_of_mem _ hc)
  unfold grp
  split
  ·exact grp_all Q S r _ hr hS
  ·intro c' hc
   rcases List.mem_append.1 hc with hc | hc
   ·revert hc
    split
    ·intro hc; cases hc
    ·intro hc; rw [List.mem_singleton.1 hc]; exact hr
   ·exact grp_all Q S c.f0 _ (h c List.mem_cons_self) hS c' hc
theorem grp_canon : ∀ (S : List S74) (r : List S25) (n : Int), In64 n → (∀ c ∈ S, cmpRow r c.f0 ≤ 0) → Srt S → Canon (grp r n S)
 | [], r, n, hn, _, _ => by
  unfold grp
  split
  ·exact ⟨List.Pairwise.nil, fun c hc => by cases hc⟩
  ·rename_i h
   exact ⟨List.pairwise_singleton _ _, fun c hc => by rw [List.mem_singleton.1 hc]; exact ⟨h, hn⟩⟩
 | c :: S, r, n, hn, h, hs => by
  have hp := List.pairwise_cons.1 hs
  have hS : ∀ c' ∈ S, cmpRow r c'.f0 ≤ 0 := fun c' hc => h c' (List.mem_cons_of_mem _ hc)
  unfold grp
  split
  ·exact grp_canon S r _ (in64_wrap _) hS hp.2
  ·rename_i hne
   have hlt : cmpRow r c.f0 < 0 := by
    have := h c List.mem_cons_self
    have hf := cmpRow_flip r c.f0
    omega
   have hall : ∀ c' ∈ grp c.f0 (wrap64 (0 + c.f1)) S, cmpRow r c'.f0 < 0 := grp_all (fun x => cmpRow r x < 0) S c.f0 _ hlt fun c' hc => cmpRow_lt_le hlt (hp.1 c' hc)
   have hk := grp_canon S c.f0 (wrap64 (0 + c.f1)) (in64_wrap _) hp.1 hp.2
   split
   ·exact hk
   ·rename_i h0
    refine ⟨List.pairwise_cons.2 ⟨hall, hk.1⟩, fun c' hc => ?_⟩
    rcases List.mem_cons.1 hc with rfl | hc
    ·exact ⟨h0, hn⟩
    ·exact hk.2 c' hc
theorem grp_sum (q : List S25) : ∀ (S : List S74) (r : List S25) (n : Int), (sumN q (grp r n S) - ((if cmpRow r q = 0 then n else 0) + sumN q S)) % 18446744073709551616 = 0
 | [], r, n => by
  unfold grp
  split
  ·rename_i h; subst h; show (0 - (ite _ _ _ + 0)) % _ = (0 : Int); split <;> omega
  ·show ((ite _ _ _ + 0) - (ite _ _ _ + 0)) % _ = (0 : Int); dsimp only; omega
 | c :: S, r, n => by
  have e0 : ∀ (x : S74) (T : List S74), sumN q (x :: T) = (if cmpRow x.f0 q = 0 then x.f1 else 0) + sumN q T := fun _ _ => rfl
  rw [e0]
  unfold grp
  split
  ·rename_i h1
   have ih := grp_sum q S r (wrap64 (n + c.f1))
   rw [cmpRow_eq h1]
   by_cases h2 : cmpRow r q = 0
   ·rw [if_pos h2] at ih; rw [if_pos h2, if_pos h2]; obtain ⟨d, hd⟩ := wrap_ex (n + c.f1); omega
   ·rw [if_neg h2] at ih; rw [if_neg h2, if_neg h2]; omega
  ·have ih := grp_sum q S c.f0 (wrap64 (0 + c.f1))
   rw [sumN_append]
   have e1 : sumN q (if n = 0 then [] else [(⟨r, n⟩ : S74)]) = if cmpRow r q = 0 then n else 0 := by
    split
    ·rename_i h; subst h; show (0 : Int) = _; split <;> rfl
    ·show ite _ _ _ + 0 = _; dsimp only; omega
   rw [e1]
   by_cases h2 : cmpRow c.f0 q = 0
   ·rw [if_pos h2] at ih; rw [if_pos h2]; obtain ⟨d, hd⟩ := wrap_ex (0 + c.f1); omega
   ·rw [if_neg h2] at ih; rw [if_neg h2]; omega
theorem gath_canon : ∀ (S : List S74), Srt S → Canon (gath S)
 | [], _ => ⟨List.Pairwise.nil, fun c hc => by cases hc⟩
 | c :: S, h => grp_canon S c.f0 _ (in64_wrap _) (List.pairwise_cons.1 h).1 (List.pairwise_cons.1 h).2
theorem gath_sum (q : List S25) : ∀ (S : List S74), (sumN q (gath S) - sumN q S) % 18446744073709551616 = 0
 | [] => by show (0 - 0 : Int) % _ = 0; decide
 | c :: S => by
  have ih := grp_sum q S c.f0 (wrap64 (0 + c.f1))
  show (sumN q (grp c.f0 (wrap64 (0 + c.f1)) S) - ((if cmpRow c.f0 q = 0 then c.f1 else 0) + sumN q S)) % _ = 0
  by_cases h2 : cmpRow c.f0 q = 0
  ·rw [if_pos h2] at ih; rw [if_pos h2]; obtain ⟨d, hd⟩ := wrap_ex (0 + c.f1); omega
  ·rw [if_neg h2] at ih; rw [if_neg h2]; omega
theorem grp_length : ∀ (S : List S74) (r : List S25) (n : Int), (grp r n S).length ≤ S.length + 1
 | [], r, n => by unfold grp; split <;> simp
 | c :: S, r, n => by
  unfold grp
  split
  ·have := grp_length S r (wrap64 (n + c.f1)); simp only [List.length_cons]; omega
  ·have := grp_length S c.f0 (wrap64 (0 + c.f1))
   rw [List.length_append]
   split <;> simp only [List.length_cons, List.length_nil] <;> omega
theorem gath_length : ∀ (S : List S74), (gath S).length ≤ S.length
 | [] => Nat.le_refl _
 | c :: S => by have := grp_length S c.f0 (wrap64 (0 + c.f1)); simp only [List.length_cons]; exact this
section
open Go.Proofs.YtapgfamppnhnmaaStable Go.Proofs.YtapgfamppnhnmaaSort Go.Sort
def ltRow (a b : S74) : Bool := decide (cmpRow a.f0 b.f0 < 0)
theorem swo_ltRow : SWO ltRow where
 irrefl x := by unfold ltRow; rw [cmpRow_self]; rfl
 trans x y z h g := by unfold ltRow at *; exact decide_eq_true (cmpRow_trans (of_decide_eq_true h) (of_decide_eq_true g))
 ntrans x y z h g := by
  unfold ltRow at *
  have h := of_decide_eq_false h
  have g := of_decide_eq_false g
  have f1 := cmpRow_flip x.f0 y.f0
  have f2 := cmpRow_flip y.f0 z.f0
  have f3 := cmpRow_flip x.f0 z.f0
  have := cmpRow_le_trans (x := z.f0) (y := y.f0) (z := x.f0) (by omega) (by omega)
  exact decide_eq_false (by omega)
theorem ins_cons (x y : S74) (S : List S74) : ins ltRow x (y :: S) = if ltRow x y = true then x :: y :: S else y :: ins ltRow x S := by
 unfold ins
 cases h : ltRow x y <;> simp [List.takeWhile_cons, List.dropWhile_cons, h]
theorem ins_srt (x : S74) : ∀ (S : List S74), Srt S → Srt (ins ltRow x S)
 | [], _ => List.pairwise_singleton _ _
 | y :: S, h => by
  have hp := List.pairwise_cons.1 h
  rw [ins_cons]
  split
  ·rename_i hl
   have hl : cmpRow x.f0 y.f0 < 0 := of_decide_eq_true hl
   refine List.pairwise_cons.2 ⟨fun c hc => ?_, h⟩
   rcases List.mem_cons.1 hc with rfl | hc
   ·omega
   ·exact cmpRow_le_trans (by omega) (hp.1 c hc)
  ·rename_i hl
   have hl : ¬ cmpRow x.f0 y.f0 < 0 := fun g => hl (decide_eq_true g)
   have hf := cmpRow_flip x.f0 y.f0
   refine List.pairwise_cons.2 ⟨fun c hc => ?_, ins_srt x S hp.2⟩
   rcases List.mem_cons.1 ((ins_perm ltRow x S).mem_iff.1 hc) with rfl | hc
   ·omega
   ·exact hp.1 c hc
theorem isort_srt (l : List S74) : Srt (isort ltRow l) := by
 have : ∀ (l S : List S74), Srt S → Srt (l.foldl (fun S x => ins ltRow x S) S) := by
  intro l
  induction l with
  | nil => exact fun S h => h
  | cons x l ih => exact fun S h => ih _ (ins_srt x S h)
 exact this l [] List.Pairwise.nil
theorem isort_perm (l : List S74) : (isort ltRow l).Perm l := by
 have : ∀ (l S : List S74), (l.foldl (fun S x => ins ltRow x S) S).Perm (l ++ S) := by
  intro l
  induction l with
  | nil => exact fun S => List.Perm.refl _
  | cons x l ih => exact fun S => (ih _).trans (((List.Perm.append_left l (ins_perm ltRow x S))).trans List.perm_middle)
 have h := this l []
 rw [List.append_nil] at h
 exact h
theorem sort78_is (k : Nat) (l : List S74) (h : l.length ≤ 2000000) : impl_Counted_78.f (k + 4) l = some (isort ltRow l) := by
 unfold impl_Counted_78.f
 rw [if_pos ⟨by omega, List.all_eq_true.2 fun x _ => List.all_eq_true.2 fun y _ => by rw [implCompareRow_is4]; rfl⟩]
 have e : (ltC fun i j => (impl_CompareRow.f (k + 4) (l.getD i z74).f0 (l.getD j z74).f0).getD 0) = fun i j => ltRow (l.getD i z74) (l.getD j z74) := by
  funext i j
  unfold ltC ltRow
  simp only [implCompareRow_is4, Option.getD_some]
 rw [e, stable_list ltRow z74 swo_ltRow l]
theorem sort78_ev (l : List S74) (h : l.length ≤ 2000000) : Ev (fun k => impl_Counted_78.f k l) (isort ltRow l) := ⟨4, fun k hk => by
 obtain ⟨k', rfl⟩ := Nat.exists_eq_add_of_le hk
 rw [Nat.add_comm 4 k']
 exact sort78_is k' l h⟩
theorem clone77_is (l : List S74) (h : l.length ≤ 2000000) : impl_Counted_77.f l = some l := by
 unfold impl_Counted_77.f
 rw [Option.bind_some, if_pos (by simp; omega), List.nil_append]
theorem clone81_is (l : List S25) (h : l.length ≤ 2000000) : impl_Value_81.f l = some l := by
 unfold impl_Value_81.f
 rw [Option.bind_some, if_pos (by simp; omega), List.nil_append]
theorem gather_loop (L : List S74) (hL : L.length ≤ 2000000) (hx : ∀ c ∈ L, c.f0.length ≤ 2000000) (W : Int) : ∀ (m i : Nat), L.length - i = m → i ≤ L.length →
  (∀ out : List S74, out.length ≤ i → Ev (fun k => impl_gathered.l0 k L (i : Int) W out) (W, out ++ gath (L.drop i))) ∧
  (∀ (fi : Nat) (n : Int) (out : List S74), fi < i → out.length ≤ fi → Ev (fun k => impl_gathered.l1 k L (i : Int) (fi : Int) W out (L.getD fi z74).f0 n) (W, out ++ grp (L.getD fi z74).f0 n (L.drop i))) := by
 intro m
 induction m with
 | zero =>
  intro i h1 h2
  have hi : i = L.length := by omega
  subst hi
  rw [List.drop_length]
  have h0 : ∀ out : List S74, Ev (fun k => impl_gathered.l0 k L (L.length : Int) W out) (W, out) := fun out => Ev.step (fun k => rfl) (ev_if_neg (by omega) (ev_some fun _ => rfl))
  refine ⟨fun out _ => ev_conv (h0 out) (by rw [show gath [] = [] from rfl, List.append_nil]), fun fi n out hf ho => ?_⟩
  by_cases hn : n = 0
  ·exact Ev.step (fun k => rfl) (ev_if_neg (by omega) (ev_if_pos hn (ev_conv (h0 out) (by unfold grp; rw [if_pos hn, List.append_nil]))))
  ·exact Ev.step (fun k => rfl) (ev_if_neg (by omega) (ev_if_neg hn (ev_if_pos (by omega) (ev_conv (h0 _) (by unfold grp; rw [if_neg hn])))))
 | succ m ih =>
  intro i h1 h2
  have hi : i < L.length := by omega
  obtain ⟨_, ih1⟩ := ih (i + 1) (by omega) (by omega)
  have hrow := hx _ (getD_mem z74 hi)
  have ed := drop_cons_getD z74 hi
  have L0 : ∀ out : List S74, out.length ≤ i → Ev (fun k => impl_gathered.l0 k L (i : Int) W out) (W, out ++ gath (L.drop i)) := by
   intro out ho
   have e1 := ih1 i (wrap64 (0 + (L.getD i z74).f1)) out (by omega) ho
   rw [ed]
   show Ev _ (W, out ++ grp (L.getD i z74).f0 (wrap64 (0 + (L.getD i z74).f1)) (L.drop (i + 1)))
   refine Ev.step (fun k => rfl) (ev_if_pos (by omega) (ev_if_pos (by omega) (ev_bind0 (clone81_is _ hrow) ?_)))
   refine Ev.step (fun k => rfl) (ev_if_pos (by omega) (ev_if_pos (by omega) (ev_if_pos (by omega) (ev_if_pos (by omega) (Ev.bind (implCompareRow_is _ _) (ev_if_pos (cmpRow_self _) ?_))))))
   rw [wrap_succ hi (by omega)]
   exact e1
  refine ⟨L0, fun fi n out hf ho => ?_⟩
  rw [ed]
  show Ev _ (W, out ++ (if cmpRow (L.getD i z74).f0 (L.getD fi z74).f0 = 0 then grp (L.getD fi z74).f0 (wrap64 (n + (L.getD i z74).f1)) (L.drop (i + 1)) else (if n = 0 then [] else [⟨(L.getD fi z74).f0, n⟩]) ++ grp (L.getD i z74).f0 (wrap64 (0 + (L.getD i z74).f1)) (L.drop (i + 1))))
  refine Ev.step (fun k => rfl) (ev_if_pos (by omega) (ev_if_pos (by omega) (ev_if_pos (by omega) (ev_if_pos (by omega) (Ev.bind (implCompareRow_is _ _) ?_)))))
  by_cases hc : cmpRow (L.getD i z74).f0 (L.getD fi z74).f0 = 0
  ·rw [if_pos hc]
   refine ev_if_pos hc ?_
   rw [wrap_succ hi (by omega)]
   exact ih1 fi _ out (by omega) ho
  ·rw [if_neg hc]
   refine ev_if_neg hc ?_
   by_cases hn : n = 0
   ·rw [if_pos hn, List.nil_append]
    refine ev_if_pos hn (ev_conv (L0 out (by omega)) ?_)
    rw [ed]; rfl
   ·rw [if_neg hn]
    refine ev_if_neg hn (ev_if_pos (by omega) (ev_conv (L0 (out ++ [⟨(L.getD fi z74).f0, n⟩]) (by rw [List.length_append]; simp only [List.length_cons, List.length_nil]; omega)) ?_))
    rw [ed, List.append_assoc]; rfl
theorem gathered_is (W : Int) (l : List S74) (h : l.length ≤ 2000000) (hx : ∀ c ∈ l, c.f0.length ≤ 2000000) : Ev (fun k => impl_gathered.f k W l) (W, gath (isort ltRow l)) := by
 have hp := isort_perm l
 have g := (gather_loop (isort ltRow l) (by rw [hp.length_eq]; exact h) (fun c hc => hx c (hp.mem_iff.1 hc)) W _ 0 rfl (Nat.zero_le _)).1 [] (Nat.le_refl _)
 rw [List.nil_append, List.drop_zero] at g
 exact ev_bind0 (clone77_is l h) (Ev.bind (sort78_ev l h) g)
theorem gathered_canon (l : List S74) : Canon (gath (isort ltRow l)) := gath_canon _ (isort_srt l)
theorem gathered_sum (q : List S25) (l : List S74) : (sumN q (gath (isort ltRow l)) - sumN q l) % 18446744073709551616 = 0 := by
 have h := gath_sum q (isort ltRow l)
 rw [sumN_perm q (isort_perm l)] at h
 exact h
theorem gathered_length (l : List S74) : (gath (isort ltRow l)).length ≤ l.length := by
 have h := gath_length (isort ltRow l)
 rw [(isort_perm l).length_eq] at h
 exact h
end
def wtVSS (l : List (List S56)) : Nat := l.length + (l.map wtVS).sum
theorem szValueSS_is (xs : List (List S56)) (hn : xs.length ≤ 9223372036854775807) (hx : ∀ r ∈ xs, r.length ≤ 9223372036854775807 ∧ ∀ x ∈ r, x.f2.size ≤ 9223372036854775807) (l : Int) (h0 : 0 ≤ l) (h1 : l ≤ 1048576) : Ev (fun k => laws_szValueSS.f k xs l) (lft l (wtVSS xs)) :=
 sz_list ([] : List S56) laws_szValueSS.f laws_szValueSS.l0 (fun k x l => laws_szValueS.f k x l) wtVS (fun _ _ _ => rfl) (fun _ _ _ _ => rfl) xs hn (fun x hx' l h0 h1 => szValueS_is x (hx x hx').1 (hx x hx').2 l h0 h1) l h0 h1
theorem rows_bounds {xs : List (List S56)} {l : Int} (h : (wtVSS xs : Int) ≤ l) (hl : l ≤ 1048576) : xs.length ≤ 1048576 ∧ (∀ r ∈ xs, r.length ≤ 1048576) ∧ (xs.map List.length).sum ≤ 1048576 := by
 unfold wtVSS at h
 have hs : (xs.map List.length).sum ≤ (xs.map wtVS).sum := by
  clear h
  induction xs with
  | nil => exact Nat.le_refl _
  | cons a xs ih =>
   rw [List.map_cons, List.map_cons, List.sum_cons, List.sum_cons]
   have : a.length ≤ wtVS a := by unfold wtVS; omega
   omega
 refine ⟨by omega, fun r hr => ?_, by omega⟩
 have h1 := sum_le_of_mem0 wtVS hr
 have h2 : r.length ≤ wtVS r := by unfold wtVS; omega
 omega
def toVV (xs : List (List S56)) : List (List S25) := xs.map (fun r => r.map toV)
theorem toValueSS_is (xs : List (List S56)) (hn : xs.length ≤ 1048576) (hx : ∀ r ∈ xs, r.length ≤ 8796093022208) : Ev (fun k => laws_toValueSS.f k xs) (toVV xs) :=
 map_list ([] : List S56) ([] : List S25) laws_toValueSS.f laws_toValueSS.l0 (fun k x => laws_toValueS.f k x) (fun bt => bt) (fun x => x.map toV) 11728124029610 (fun _ _ => rfl) (fun _ _ _ _ => rfl) xs (by omega) (by omega) (fun x h => toValueS_is x (hx x h))
theorem eqValueSS_refl (xs : List (List S25)) (hn : xs.length ≤ 9223372036854775807) (hx : ∀ r ∈ xs, r.length ≤ 9223372036854775807) : Ev (fun k => laws_eqValueSS.f k xs xs) true :=
 eq_list ([] : List S25) laws_eqValueSS.f laws_eqValueSS.l0 (fun k x y => laws_eqValueS.f k x y) (fun _ _ _ => rfl) (fun _ _ _ _ => rfl) xs hn (fun x h => eqValueS_refl x (hx x h))
theorem markVV_loop : ∀ (rest pre : List (List S25)) (n : Nat), (∀ r ∈ rest, r.length ≤ 1048576) → pre.length + rest.length ≤ 2000000 → n + 3 * (rest.map List.length).sum ≤ 100000000 →
  ∃ ys, Ev (fun k => laws_markValueSS.l0 k (pre ++ rest) (n : Int) (pre.length : Int)) (((n + 3 * (rest.map List.length).sum : Nat) : Int), ys)
 | [], pre, n, h0, h1, h2 => ⟨_, Ev.step (fun k => rfl) (ev_if_neg (by simp) (ev_some fun _ => rfl))⟩
 | r :: rest, pre, n, h0, h1, h2 => by
  have hr := h0 r (by simp)
  rw [List.length_cons] at h1
  rw [List.map_cons, List.sum_cons] at h2 ⊢
  have w4 : wrap64 ((pre.length : Int) + 1) = ((pre.length + 1 : Nat) : Int) := wrap_add (b := 1) rfl (by omega)
  have g : rd_VV (pre ++ r :: rest) (pre.length : Int) = r := by unfold rd_VV; rw [Int.toNat_natCast, getD_mid]
  obtain ⟨ys, ih⟩ := markVV_loop rest (pre ++ [mVs r.length n]) (n + 3 * r.length) (fun y hy => h0 y (by simp [hy])) (by rw [List.length_append]; show pre.length + 1 + _ ≤ _; omega) (by omega)
  rw [List.append_assoc, List.singleton_append, List.length_append, show n + 3 * r.length + 3 * (rest.map List.length).sum = n + 3 * (r.length + (rest.map List.length).sum) by omega] at ih
  have hv := markV_loop r [] n (by simp; omega) (by omega)
  refine ⟨ys, Ev.step (fun k => rfl) (ev_if_pos (by rw [List.length_append, List.length_cons]; omega) (ev_if_pos (by omega) ?_))⟩
  rw [g]
  refine Ev.bind hv ?_
  simp only [Int.toNat_natCast, set_mid, List.nil_append, w4]
  exact ih
theorem markVV_is (xs : List (List S25)) (h0 : ∀ r ∈ xs, r.length ≤ 1048576) (h1 : xs.length ≤ 1048576) (h2 : (xs.map List.length).sum ≤ 1048576) : ∃ e ys, Ev (fun k => laws_markValueSS.f k xs 1) (e, ys) ∧ 0 ≤ e := by
 obtain ⟨ys, h⟩ := markVV_loop xs [] 1 h0 (by simp; omega) (by omega)
 exact ⟨_, ys, h, by omega⟩
section
open Go.Proofs.YtapgfamppnhnmaaStable
def putAll (S : List S74) (rows : List (List S25)) : List S74 := rows.foldl (fun S r => putL r 1 S) S
def ones (rows : List (List S25)) : List S74 := rows.map (fun r => ⟨r, 1⟩)
open Classical in
noncomputable def rightB (W : Int) (S : List S74) : Int × List S74 := (W, if BagP W S then S else [])
theorem putAll_canon : ∀ (rows : List (List S25)) (S : List S74), Canon S → Canon (putAll S rows)
 | [], S, h => h
 | r :: rows, S, h => putAll_canon rows (putL r 1 S) (putL_canon r 1 (by unfold In64; omega) S h)
theorem putAll_sum (q : List S25) : ∀ (rows : List (List S25)) (S : List S74), (sumN q (putAll S rows) - (sumN q S + sumN q (ones rows))) % 18446744073709551616 = 0
 | [], S => by show (sumN q S - (sumN q S + 0)) % _ = (0 : Int); omega
 | r :: rows, S => by
  have ih := putAll_sum q rows (putL r 1 S)
  have h := putL_sum r 1 q S
  show (sumN q (putAll (putL r 1 S) rows) - (sumN q S + ((if cmpRow r q = 0 then 1 else 0) + sumN q (ones rows)))) % _ = 0
  split at h <;> omega
theorem bagOf_same (rows : List (List S25)) : gath (isort ltRow (ones rows)) = putAll [] rows :=
 canon_unique (gathered_canon _) (putAll_canon rows [] ⟨List.Pairwise.nil, fun c hc => by cases hc⟩) fun q => by
  have h1 := gathered_sum q (ones rows)
  have h2 := putAll_sum q rows []
  have e : sumN q ([] : List S74) = 0 := rfl
  rw [e] at h2
  omega
open Classical in
theorem specBagOf_loop (rows : List (List S25)) (hn : rows.length ≤ 1048576) (hx : ∀ r ∈ rows, r.length ≤ 1048576) (W : Int) : ∀ (n i : Nat) (S : List S74), rows.length - i = n → i ≤ rows.length → S.length ≤ i → Canon S → (∀ c ∈ S, c.f0.length ≤ 1048576) →
  Ev (fun k => spec_BagOf.l0 k rows (i : Int) W S) (rightB W (putAll S (rows.drop i))) := by
 intro n
 induction n with
 | zero =>
  intro i S h1 h2 h3 h4 h5
  have hi : i = rows.length := by omega
  subst hi
  rw [List.drop_length]
  show Ev _ (rightB W S)
  have hb := spec_bagOk_is W S (by omega) h5 (decide (BagP W S)) (by simp)
  refine Ev.step (fun k => rfl) (ev_if_neg (by omega) (Ev.bind (a := rightB W S) ?_ (ev_some fun _ => rfl)))
  refine Ev.congr (fun k => rfl) (Ev.bind hb ?_)
  unfold rightB
  by_cases hp : BagP W S
  ·exact ev_if_pos (by simp [hp]) (ev_some fun _ => by rw [if_pos hp])
  ·exact ev_if_neg (by simp [hp]) (ev_some fun _ => by rw [if_neg hp])
 | succ n ih =>
  intro i S h1 h2 h3 h4 h5
  have hi : i < rows.length := by omega
  have hr := hx _ (getD_mem ([] : List S25) hi)
  have e : rd_L5 rows (i : Int) = rows.getD i [] := by unfold rd_L5; rw [Int.toNat_natCast]
  refine Ev.step (fun k => rfl) (ev_if_pos (by omega) (ev_if_pos (by omega) ?_))
  rw [e, drop_cons_getD ([] : List S25) hi, wrap_succ hi (by omega)]
  refine Ev.bind (putL_is W S (by omega) (fun c hc => Nat.le_trans (h5 c hc) (by omega)) h4.1 _ (by omega) 1) ?_
  have hl := putL_length (rows.getD i []) 1 S
  exact ih (i + 1) (putL (rows.getD i []) 1 S) (by omega) (by omega) (by omega) (putL_canon _ 1 (by unfold In64; omega) S h4) (putL_all (fun x => x.length ≤ 1048576) _ 1 hr S h5)
theorem specBagOf_is (rows : List (List S25)) (hn : rows.length ≤ 1048576) (hx : ∀ r ∈ rows, r.length ≤ 1048576) (W : Int) : Ev (fun k => spec_BagOf.f k W rows) (rightB W (putAll [] rows)) := by
 have h := specBagOf_loop rows hn hx W rows.length 0 [] (by omega) (by omega) (by simp) ⟨List.Pairwise.nil, fun c hc => by cases hc⟩ (fun c hc => by cases hc)
 rw [List.drop_zero] at h
 exact h
open Classical in
theorem implBagOf_loop (rows : List (List S25)) (hn : rows.length ≤ 1048576) (hx : ∀ r ∈ rows, r.length ≤ 1048576) (W : Int) : ∀ (n i : Nat), rows.length - i = n → i ≤ rows.length →
  Ev (fun k => impl_BagOf.l0 k W (ones (rows.take i)) rows (rows.length : Int) (i : Int)) (rightB W (gath (isort ltRow (ones rows)))) := by
 intro n
 induction n with
 | zero =>
  intro i h1 h2
  have hi : i = rows.length := by omega
  subst hi
  rw [List.take_length]
  have hl : (ones rows).length = rows.length := by unfold ones; simp
  have hg := gathered_length (ones rows)
  have hb := impl_bagOk_is W (gath (isort ltRow (ones rows))) (by omega) (decide (BagP W (gath (isort ltRow (ones rows))))) (by simp)
  refine Ev.step (fun k => rfl) (ev_if_neg (by omega) (Ev.bind (gathered_is W (ones rows) (by omega) (fun c hc => ?_)) (Ev.bind hb ?_)))
  ·unfold ones at hc
   obtain ⟨r, hr, rfl⟩ := List.mem_map.1 hc
   exact Nat.le_trans (hx r hr) (by omega)
  ·unfold rightB
   by_cases hp : BagP W (gath (isort ltRow (ones rows)))
   ·exact ev_if_pos (by simp [hp]) (ev_some fun _ => by rw [if_pos hp])
   ·exact ev_if_neg (by simp [hp]) (ev_some fun _ => by rw [if_neg hp])
 | succ n ih =>
  intro i h1 h2
  have hi : i < rows.length := by omega
  have e : rd_L5 rows (i : Int) = rows.getD i [] := by unfold rd_L5; rw [Int.toNat_natCast]
  refine Ev.step (fun k => rfl) (ev_if_pos (by omega) (ev_if_pos (by omega) (ev_if_pos (by omega) (ev_if_pos (by unfold ones; rw [List.length_map, List.length_take]; omega) ?_))))
  rw [e, wrap_succ hi (by omega)]
  refine ev_conv (ih (i + 1) (by omega) (by omega)) rfl |> fun h => ?_
  have e2 : ones (rows.take (i + 1)) = ones (rows.take i) ++ [⟨rows.getD i [], 1⟩] := by
   unfold ones
   rw [List.take_succ_eq_append_getElem hi, List.map_append, List.getD_eq_getElem?_getD, List.getElem?_eq_getElem hi]
   rfl
  rw [e2] at h
  exact h
theorem implBagOf_is (rows : List (List S25)) (hn : rows.length ≤ 1048576) (hx : ∀ r ∈ rows, r.length ≤ 1048576) (W : Int) : Ev (fun k => impl_BagOf.f k W rows) (rightB W (putAll [] rows)) := by
 rw [← bagOf_same]
 exact implBagOf_loop rows hn hx W rows.length 0 (by omega) (by omega)
theorem rightB_bounds (W : Int) (S : List S74) : (rightB W S).1 = W ∧ (rightB W S).2.length ≤ 400 ∧ ∀ c ∈ (rightB W S).2, c.f0.length ≤ 12 := by
 unfold rightB
 refine ⟨rfl, ?_⟩
 dsimp only
 split
 ·rename_i h
  obtain ⟨h1, h2, h3⟩ := h
  refine ⟨h3, fun c hc => ?_⟩
  obtain ⟨j, hj, rfl⟩ := List.getElem_of_mem hc
  have h := (h1 j hj).1.2
  rw [List.getD_eq_getElem?_getD, List.getElem?_eq_getElem hj] at h
  have h : ((S[j]).f0.length : Int) = W := h
  omega
 ·exact ⟨by simp, fun c hc => by cases hc⟩
end
end Go.Proofs.Ytapgfamppnhnmaa.PFnExactBagOf
