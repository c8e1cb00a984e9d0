/- Plain lemmas on what the functions of the law FnExactDbOk compute: numbers and lists alone. -/
import Derived.Test.YtmkllhkhiefbnaaPFnExactDbOkx0
import Derived.Test.YtmkllhkhiefbnaaPFnExactDbOkx1
import Derived.Test.YtmkllhkhiefbnaaPFnExactDbOkx2
import Derived.Test.YtmkllhkhiefbnaaPFnExactDbOkx3
import Derived.Test.YtmkllhkhiefbnaaPFnExactDbOkx4
import Derived.Test.YtmkllhkhiefbnaaPFnExactDbOkx5
import Derived.Test.YtmkllhkhiefbnaaPFnExactDbOkx6
import Derived.Test.YtmkllhkhiefbnaaPFnExactDbOkx7
import Derived.Test.YtmkllhkhiefbnaaPFnExactDbOkx8
import Derived.Test.YtmkllhkhiefbnaaPFnExactDbOkx9
import Derived.Test.YtmkllhkhiefbnaaPFnExactDbOkx10
import Derived.Test.YtmkllhkhiefbnaaPFnExactDbOkx11
import Derived.Test.YtmkllhkhiefbnaaPFnExactDbOkx12
import Derived.Test.YtmkllhkhiefbnaaOpen
import Derived.Test.YtmkllhkhiefbnaaZFnExactDbOk
namespace Go.Proofs.Ytmkllhkhiefbnaa.PFnExactDbOk
open Go.RowKit Go.Proofs.YtmkllhkhiefbnaaW.PrintWords Go.Proofs.YtmkllhkhiefbnaaW.PrintLast Go.Proofs.YtmkllhkhiefbnaaW.PrintMore Go.Proofs.YtmkllhkhiefbnaaOpen Go.Proofs.Ytmkllhkhiefbnaa.ZFnExactDbOk
set_option linter.unusedVariables false
set_option linter.unusedSimpArgs false
/-- What is left of the bound behind a text. -/
theorem szValue_is (a b : Int) (s : ByteArray) (l : Int) (h0 : 0 ≤ l) (h1 : l ≤ 1048576) (hs : s.size ≤ 9223372036854775807) : laws_szValue.f a b s l = some (lft l s.size) := by
  unfold laws_szValue.f
  rw [wrap_id (x := l - (s.size : Int)) (by omega) (by omega)]
  by_cases h : l - (s.size : Int) < 0
  · rw [if_pos h, lft_of_gt (by omega)]
  · rw [if_neg h, lft_of_le (by omega)]
theorem cmpBytes_is (l m : List UInt8) : Go.Lib.compareBytes l m = if Op.bytesLess l m = true then -1 else if (Op.bytesLess l m || l == m) = true then 0 else 1 := by
  induction l generalizing m with
  | nil => cases m <;> simp [Go.Lib.compareBytes, Op.bytesLess]
  | cons a l ih =>
    cases m with
    | nil => simp [Go.Lib.compareBytes, Op.bytesLess]
    | cons b m =>
      simp only [Go.Lib.compareBytes, Op.bytesLess]
      by_cases h : a < b
      · simp [h]
      · by_cases h' : b < a
        · have hne : ¬ a = b := by rintro rfl; exact absurd h' h
          simp [h, h', hne]
        · have e : a = b := by
            apply UInt8.toNat_inj.1
            have h1 : ¬ a.toNat < b.toNat := h
            have h2 : ¬ b.toNat < a.toNat := h'
            omega
          subst e
          simp only [h, if_false, ih]
          simp
def cmpI (a b : Int) : Int := if a < b then -1 else if b < a then 1 else 0
theorem compare_int_is (a b : Int) : cmp_Compare_int.f a b = some (cmpI a b) := by
  unfold cmp_Compare_int.f cmp_isNaN_int.f cmpI
  simp only [Option.bind_some, bne_self_eq_false, Bool.false_eq_true, if_false, gt_iff_lt]
  by_cases h : a < b
  · simp [h]
  · by_cases h' : b < a <;> simp [h, h']
theorem or_three (k : Nat) (a b c : Int) : cmp_Or_int.f (k + 4) [a, b, c] = some (if a = 0 then (if b = 0 then c else b) else a) := by
  have w0 : wrap64 (0 + 1) = 1 := by unfold wrap64; omega
  have w1 : wrap64 (1 + 1) = 2 := by unfold wrap64; omega
  have w2 : wrap64 (2 + 1) = 3 := by unfold wrap64; omega
  unfold cmp_Or_int.f
  simp only [cmp_Or_int.l0, List.length_cons, List.length_nil, w0, w1, w2, rd]
  by_cases ha : a = 0
  · by_cases hb : b = 0
    · by_cases hc : c = 0
      · simp [ha, hb, hc]
      · simp [ha, hb, hc]
    · simp [ha, hb]
  · simp [ha]
theorem compareValue_is (k : Nat) (a b : Int) (s : ByteArray) (a' b' : Int) (s' : ByteArray) : impl_CompareValue.f (k + 4) a b s a' b' s' = some (cmpV a b s a' b' s') := by
  unfold impl_CompareValue.f strings_Compare.f bytealg_CompareString.f
  simp only [compare_int_is, Option.bind_some, or_three, cmpBytes_is]
  unfold cmpV cmpI
  have hd : ∀ z : ByteArray, z.toList = z.data.toList := fun z => ByteArray.toList_eq z
  rw [hd, hd]
  by_cases h1 : a < a'
  · simp [h1]
  · by_cases h2 : a' < a
    · simp [h1, h2]
    · by_cases h3 : b < b'
      · simp [h1, h2, h3]
      · by_cases h4 : b' < b
        · simp [h1, h2, h3, h4]
        · simp [h1, h2, h3, h4]
def wtV (x : S23) : Nat := x.f2.size
def wtVS (l : List S23) : Nat := l.length + (l.map wtV).sum
theorem szValueS_is (xs : List S23) (hn : xs.length ≤ 9223372036854775807) (hx : ∀ x ∈ xs, x.f2.size ≤ 9223372036854775807) (l : Int) (h0 : 0 ≤ l) (h1 : l ≤ 1048576) : Ev (fun k => laws_szValueS.f k xs l) (lft l (wtVS xs)) :=
  sz_list z23 laws_szValueS.f laws_szValueS.l0 (fun _ x l => laws_szValue.f x.f0 x.f1 x.f2 l) wtV (fun _ _ _ => rfl) (fun _ _ _ _ => rfl) xs hn (fun x hx' l h0 h1 => ev_some fun _ => szValue_is _ _ _ l h0 h1 (hx x hx')) l h0 h1
def toV (x : S23) : S29 := ⟨x.f0, x.f1, x.f2⟩
theorem toValueS_is (xs : List S23) (hn : xs.length ≤ 8796093022208) : Ev (fun k => laws_toValueS.f k xs) (xs.map toV) :=
  map_list z23 z29 laws_toValueS.f laws_toValueS.l0 (fun _ x => laws_toValue.f x.f0 x.f1 x.f2) (fun bt => (⟨bt.1, bt.2.1, bt.2.2⟩ : S29)) (fun x => (x.f0, x.f1, x.f2)) 8796093022208 (fun _ _ => rfl) (fun _ _ _ _ => rfl) xs hn (by omega) (fun x _ => ev_some fun _ => rfl)
theorem eqValue_refl (a b : Int) (s : ByteArray) : laws_eqValue.f a b s a b s = some true := by simp [laws_eqValue.f]
theorem eqValueS_refl (xs : List S29) (hn : xs.length ≤ 9223372036854775807) : Ev (fun k => laws_eqValueS.f k xs xs) true :=
  eq_list z29 laws_eqValueS.f laws_eqValueS.l0 (fun _ x y => laws_eqValue.f x.f0 x.f1 x.f2 y.f0 y.f1 y.f2) (fun _ _ _ => rfl) (fun _ _ _ _ => rfl) xs hn (fun x _ => ev_some fun _ => eqValue_refl _ _ _)
def wtC (x : S153) : Nat := wtVS x.f0
def wtCS (l : List S153) : Nat := l.length + (l.map wtC).sum
def okC (x : S153) : Prop := x.f0.length ≤ 9223372036854775807 ∧ ∀ y ∈ x.f0, y.f2.size ≤ 9223372036854775807
theorem szCounted_is (a : List S23) (n : Int) (hn : a.length ≤ 9223372036854775807) (hx : ∀ x ∈ a, x.f2.size ≤ 9223372036854775807) (l : Int) (h0 : 0 ≤ l) (h1 : l ≤ 1048576) : Ev (fun k => laws_szCounted.f k a n l) (lft l (wtVS a)) := by
  refine Ev.congr (fun k => rfl) (Ev.bind (szValueS_is a hn hx l h0 h1) (f := fun k t => if t < 0 then some (-1) else some t) ?_)
  by_cases h : (wtVS a : Int) ≤ l
  · exact ev_if_neg (by rw [lft_of_le h]; omega) (ev_some fun _ => rfl)
  · rw [lft_of_gt h]
    exact ev_if_pos (by omega) (ev_some fun _ => rfl)
theorem szCountedS_is (xs : List S153) (hn : xs.length ≤ 9223372036854775807) (hx : ∀ x ∈ xs, okC x) (l : Int) (h0 : 0 ≤ l) (h1 : l ≤ 1048576) : Ev (fun k => laws_szCountedS.f k xs l) (lft l (wtCS xs)) :=
  sz_list z153 laws_szCountedS.f laws_szCountedS.l0 (fun k x l => laws_szCounted.f k x.f0 x.f1 l) wtC (fun _ _ _ => rfl) (fun _ _ _ _ => rfl) xs hn (fun x hx' l h0 h1 => szCounted_is _ _ (hx x hx').1 (hx x hx').2 l h0 h1) l h0 h1
theorem szBag_is (w : Int) (xs : List S153) (hn : xs.length ≤ 9223372036854775807) (hx : ∀ x ∈ xs, okC x) (l : Int) (h0 : 0 ≤ l) (h1 : l ≤ 1048576) : Ev (fun k => laws_szBag.f k w xs l) (lft l (wtCS xs)) := by
  refine Ev.congr (fun k => rfl) (Ev.bind (szCountedS_is xs hn hx l h0 h1) (f := fun k t => if t < 0 then some (-1) else some t) ?_)
  by_cases h : (wtCS xs : Int) ≤ l
  · exact ev_if_neg (by rw [lft_of_le h]; omega) (ev_some fun _ => rfl)
  · rw [lft_of_gt h]
    exact ev_if_pos (by omega) (ev_some fun _ => rfl)
theorem sum_le_of_mem {α : Type} (f : α → Nat) {l : List α} {x : α} (h : x ∈ l) : f x ≤ (l.map f).sum := by
  induction l with
  | nil => cases h
  | cons a l ih =>
    rw [List.map_cons, List.sum_cons]
    rcases List.mem_cons.1 h with rfl | h
    · omega
    · have := ih h
      omega
def toC (x : S153) : S89 := ⟨x.f0.map toV, x.f1⟩
theorem toCounted_is (a : List S23) (n : Int) (hn : a.length ≤ 8796093022208) : Ev (fun k => laws_toCounted.f k a n) (a.map toV, n) :=
  Ev.bind (toValueS_is a hn) (f := fun k t => some (t, n)) (ev_some fun _ => rfl)
theorem toCountedS_is (xs : List S153) (hn : xs.length ≤ 8796093022208) (hx : ∀ x ∈ xs, x.f0.length ≤ 8796093022208) : Ev (fun k => laws_toCountedS.f k xs) (xs.map toC) :=
  map_list z153 z89 laws_toCountedS.f laws_toCountedS.l0 (fun k x => laws_toCounted.f k x.f0 x.f1) (fun bt => (⟨bt.1, bt.2⟩ : S89)) (fun x => (x.f0.map toV, x.f1)) 8796093022208 (fun _ _ => rfl) (fun _ _ _ _ => rfl) xs hn (by omega) (fun x h => toCounted_is _ _ (hx x h))
theorem toBag_is (w : Int) (xs : List S153) (hn : xs.length ≤ 8796093022208) (hx : ∀ x ∈ xs, x.f0.length ≤ 8796093022208) : Ev (fun k => laws_toBag.f k w xs) (w, xs.map toC) :=
  Ev.bind (toCountedS_is xs hn hx) (f := fun k t => some (w, t)) (ev_some fun _ => rfl)
theorem eqCounted_refl (a : List S29) (n : Int) (hn : a.length ≤ 9223372036854775807) : Ev (fun k => laws_eqCounted.f k a n a n) true := by
  refine Ev.congr (fun k => rfl) (Ev.bind (eqValueS_refl a hn) (f := fun k t => if t = true then (if n = n then some true else some false) else some false) ?_)
  exact ev_some fun _ => by simp
theorem eqCountedS_refl (xs : List S89) (hn : xs.length ≤ 9223372036854775807) (hx : ∀ x ∈ xs, x.f0.length ≤ 9223372036854775807) : Ev (fun k => laws_eqCountedS.f k xs xs) true :=
  eq_list z89 laws_eqCountedS.f laws_eqCountedS.l0 (fun k x y => laws_eqCounted.f k x.f0 x.f1 y.f0 y.f1) (fun _ _ _ => rfl) (fun _ _ _ _ => rfl) xs hn (fun x h => eqCounted_refl _ _ (hx x h))
theorem eqBag_refl (w : Int) (xs : List S89) (hn : xs.length ≤ 9223372036854775807) (hx : ∀ x ∈ xs, x.f0.length ≤ 9223372036854775807) : Ev (fun k => laws_eqBag.f k w xs w xs) true := by
  refine Ev.congr (fun k => if_pos rfl) (Ev.bind (eqCountedS_refl xs hn hx) (f := fun k t => if t = true then some true else some false) ?_)
  exact ev_some fun _ => by simp
/-- What the bound tells of a bag. -/
theorem bag_bounds {xs : List S153} {l : Int} (h : (wtCS xs : Int) ≤ l) (hl : l ≤ 1048576) : xs.length ≤ 1048576 ∧ ∀ x ∈ xs, x.f0.length ≤ 1048576 := by
  unfold wtCS at h
  refine ⟨by omega, fun x hx => ?_⟩
  have h1 := sum_le_of_mem wtC hx
  have h2 : x.f0.length ≤ wtC x := by unfold wtC wtVS; omega
  omega
theorem toC_len {xs : List S153} {n : Nat} (h : ∀ x ∈ xs, x.f0.length ≤ n) : ∀ x ∈ xs.map toC, x.f0.length ≤ n := by
  intro y hy
  obtain ⟨x, hx, rfl⟩ := List.mem_map.1 hy
  simpa [toC] using h x hx
/-- Is a value right. -/
def okV (a b : Int) (s : List UInt8) : Bool := if a = 0 then (b == 0 && s.isEmpty) else if a = 1 then s.isEmpty else if a = 2 then (decide (0 ≤ b ∧ b ≤ 1) && s.isEmpty) else if a = 3 then (b == 0 && decide (s.length ≤ 100)) else false
theorem specValueOk_is (a b : Int) (s : ByteArray) : spec_ValueOk.f a b s = some (okV a b s.data.toList) := by
  unfold spec_ValueOk.f okV spec_l01In.f
  have he : (s.toList == ([] : List UInt8)) = s.data.toList.isEmpty := by rw [toList_data]; cases s.data.toList <;> rfl
  rw [he, size_data]
  by_cases h0 : a = 0
  · by_cases hb : b = 0 <;> simp [h0, hb]
  · by_cases h1 : a = 1
    · simp [h1]
    · by_cases h2 : a = 2
      · by_cases hb : 0 ≤ b
        · by_cases hb' : b ≤ 1 <;> simp [h2, hb, hb']
        · simp [h2, hb]
      · by_cases h3 : a = 3
        · by_cases hb : b = 0
          · simp [h3, hb]
            omega
          · simp [h3, hb]
        · simp [h0, h1, h2, h3]
theorem implValueOk_is (a b : Int) (s : ByteArray) : impl_ValueOk.f a b s = some (okV a b s.data.toList) := specValueOk_is a b s
theorem nm_l01In_is (a b c : Int) : spec_l01In.f a b c = some (decide (b ≤ a ∧ a ≤ c)) := by
  unfold spec_l01In.f
  by_cases h : a ≥ b
  · rw [if_pos h]
    by_cases h' : a ≤ c <;> simp [h', show b ≤ a from h]
  · rw [if_neg h, decide_eq_false (by omega)]
def okAt (s : ByteArray) (j : Nat) : Prop := (97 ≤ bt s j ∧ bt s j ≤ 122) ∨ (j ≠ 0 ∧ 48 ≤ bt s j ∧ bt s j ≤ 57)
/-- A name. -/
def NameP (s : ByteArray) : Prop := (∀ j, j < s.size → okAt s j) ∧ 1 ≤ s.size ∧ s.size ≤ 10
theorem spec_nameOk_loop (s : ByteArray) (hs : s.size ≤ 9223372036854775807) : ∀ (n i : Nat) (r : Bool), s.size - i = n → i ≤ s.size → (r = true ↔ (∀ j, i ≤ j → j < s.size → okAt s j) ∧ 1 ≤ s.size ∧ s.size ≤ 10) → Ev (fun k => spec_NameOk.l0 k s i) r := by
  intro n
  induction n with
  | zero =>
    intro i r h1 h2 hr
    refine Ev.step (fun k => rfl) (ev_if_neg (by omega) (ev_some fun k => ?_))
    rw [nm_l01In_is]
    simp only [Option.bind_some]
    congr 1
    rw [Bool.eq_iff_iff, hr, decide_eq_true_eq]
    exact ⟨fun h => ⟨fun j _ _ => by omega, by omega, by omega⟩, fun h => by omega⟩
  | succ n ih =>
    intro i r h1 h2 hr
    have hi : i < s.size := by omega
    have hb := bt_range s i
    refine Ev.step (fun k => rfl) (ev_if_pos (by omega) (ev_if_pos (by omega) ?_))
    rw [wrap_id (by omega) (by omega), wrap_succ hi hs]
    refine ev_bind0 (nm_l01In_is _ _ _) ?_
    have next : okAt s i → Ev (fun k => spec_NameOk.l0 k s ((i + 1 : Nat) : Int)) r := fun ho => ih (i + 1) r (by omega) (by omega) (hr.trans ⟨fun h => ⟨fun j hj hj' => h.1 j (by omega) hj', h.2⟩, fun h => ⟨fun j hj hj' => by
      by_cases e : j = i
      · exact e ▸ ho
      · exact h.1 j (by omega) hj', h.2⟩⟩)
    have no : ¬ okAt s i → false = r := fun ho => by
      cases r with
      | false => rfl
      | true => exact absurd ((hr.1 rfl).1 i (Nat.le_refl _) hi) ho
    by_cases hsm : 97 ≤ bt s i ∧ bt s i ≤ 122
    · exact ev_if_pos (decide_eq_true hsm) (next (.inl hsm))
    · refine ev_if_neg (by simpa using hsm) ?_
      by_cases h0 : (i : Int) = 0
      · exact ev_if_pos h0 (ev_conv (ev_some fun _ => rfl) (no (by rintro (h | h); exact hsm h; exact h.1 (by omega))))
      · refine ev_if_neg h0 (ev_bind0 (nm_l01In_is _ _ _) ?_)
        by_cases hd : 48 ≤ bt s i ∧ bt s i ≤ 57
        · exact ev_if_pos (decide_eq_true hd) (next (.inr ⟨by omega, hd⟩))
        · exact ev_if_neg (by simpa using hd) (ev_conv (ev_some fun _ => rfl) (no (by rintro (h | h); exact hsm h; exact hd h.2)))
theorem spec_nameOk_is (s : ByteArray) (hs : s.size ≤ 9223372036854775807) (r : Bool) (hr : r = true ↔ NameP s) : Ev (fun k => spec_NameOk.f k s) r :=
  spec_nameOk_loop s hs s.size 0 r rfl (Nat.zero_le _) (hr.trans ⟨fun h => ⟨fun j _ hj => h.1 j hj, h.2⟩, fun h => ⟨fun j hj => h.1 j (Nat.zero_le _) hj, h.2⟩⟩)
theorem allO_is {α : Type} {f : α → Option Bool} {g : α → Bool} : ∀ {xs : List α}, (∀ x ∈ xs, f x = some (g x)) → allO f xs = some (xs.all g)
  | [], _ => rfl
  | x :: xs, h => by
    rw [allO, h x (List.mem_cons_self ..), Option.bind_some, List.all_cons]
    cases g x with
    | false => rfl
    | true => rw [if_pos rfl, allO_is fun y hy => h y (List.mem_cons_of_mem _ hy), Bool.true_and]
theorem isSmall_is (a : Int) : impl_isSmall.f a = some (decide (97 ≤ a ∧ a ≤ 122)) := by
  unfold impl_isSmall.f
  by_cases h : a ≥ 97
  · rw [if_pos h]
    by_cases h' : a ≤ 122 <;> simp [h', show 97 ≤ a from h]
  · rw [if_neg h, decide_eq_false (by omega)]
theorem isDigit_is (a : Int) : impl_isDigit.f a = some (decide (48 ≤ a ∧ a ≤ 57)) := by
  unfold impl_isDigit.f
  by_cases h : a ≥ 48
  · rw [if_pos h]
    by_cases h' : a ≤ 57 <;> simp [h', show 48 ≤ a from h]
  · rw [if_neg h, decide_eq_false (by omega)]
theorem nameOk1_is (a : Int) : impl_NameOk_1.f a = some (decide ((97 ≤ a ∧ a ≤ 122) ∨ (48 ≤ a ∧ a ≤ 57))) := by
  unfold impl_NameOk_1.f
  rw [isSmall_is, Option.bind_some, isDigit_is]
  by_cases h : 97 ≤ a ∧ a ≤ 122
  · rw [if_pos (decide_eq_true h), decide_eq_true (Or.inl h)]
  · rw [if_neg (by simpa using h), Option.bind_some]
    congr 1
    by_cases h' : 48 ≤ a ∧ a ≤ 57
    · rw [decide_eq_true h', decide_eq_true (Or.inr h')]
    · rw [decide_eq_false h', decide_eq_false (by rintro (x | x); exact h x; exact h' x)]
theorem bytesI_mem {s : ByteArray} {x : Int} (h : x ∈ bytesI s) : ∃ j, j < s.size ∧ x = bt s (j : Nat) := by
  obtain ⟨j, hj, rfl⟩ := List.getElem_of_mem h
  have hl : j < s.size := by simpa [bytesI] using hj
  refine ⟨j, hl, ?_⟩
  rw [← bt_at s j (by simpa using hl)]
  simp [bytesI]
  rfl
theorem bt_mem {s : ByteArray} {j : Nat} (hl : j < s.size) : bt s (j : Nat) ∈ bytesI s := by
  have hj : j < (bytesI s).length := by simpa [bytesI] using hl
  have : (bytesI s)[j] = bt s j := by
    rw [← bt_at s j (by simpa using hl)]
    simp [bytesI]
    rfl
  exact this ▸ List.getElem_mem hj
theorem impl_nameOk_is (s : ByteArray) (r : Bool) (hr : r = true ↔ NameP s) : impl_NameOk.f s = some r := by
  have hw : impl_within.f (s.size : Int) 1 10 = some (decide (1 ≤ s.size ∧ s.size ≤ 10)) := by
    unfold impl_within.f
    by_cases h : (1 : Int) ≤ (s.size : Int)
    · rw [if_pos h]
      congr 1
      by_cases h' : s.size ≤ 10
      · rw [decide_eq_true (by omega), decide_eq_true (by omega)]
      · rw [decide_eq_false (by omega), decide_eq_false (by omega)]
    · rw [if_neg h, decide_eq_false (by omega)]
  have no : ¬ NameP s → some false = some r := fun hn => by
    cases r with
    | false => rfl
    | true => exact absurd (hr.1 rfl) hn
  unfold impl_NameOk.f
  rw [hw, Option.bind_some]
  by_cases hz : 1 ≤ s.size ∧ s.size ≤ 10
  · rw [if_pos (decide_eq_true hz), if_pos (by omega), isSmall_is, Option.bind_some]
    by_cases h0 : 97 ≤ bt s 0 ∧ bt s 0 ≤ 122
    · rw [if_pos (decide_eq_true h0), if_pos (by omega), allO_is (g := fun a => decide ((97 ≤ a ∧ a ≤ 122) ∨ (48 ≤ a ∧ a ≤ 57))) fun x _ => nameOk1_is x]
      congr 1
      rw [Bool.eq_iff_iff, hr, List.all_eq_true]
      refine ⟨fun h => ⟨fun j hj => ?_, hz⟩, fun h x hx => ?_⟩
      · have := of_decide_eq_true (h _ (bt_mem hj))
        by_cases e : j = 0
        · subst e
          exact .inl h0
        · exact this.imp id fun t => ⟨e, t⟩
      · obtain ⟨j, hj, rfl⟩ := bytesI_mem hx
        exact decide_eq_true ((h.1 j hj).imp id fun t => t.2)
    · rw [if_neg (by simpa using h0)]
      exact no fun h => (h.1 0 (by omega)).elim h0 fun t => t.1 rfl
  · rw [if_neg (by simpa using hz)]
    exact no fun h => hz h.2
def cmpW (x y : S29) : Int := cmpV x.f0 x.f1 x.f2 y.f0 y.f1 y.f2
/-- The order of rows. -/
def cmpRow : List S29 → List S29 → Int
  | [], [] => 0
  | [], _ :: _ => -1
  | _ :: _, [] => 1
  | x :: xs, y :: ys => if cmpW x y = 0 then cmpRow xs ys else cmpW x y
theorem specCompareRow_tail (xs ys : List S29) (i : Nat) (h : i = xs.length ∨ i = ys.length) (h0 : i ≤ xs.length) (h1 : i ≤ ys.length) :
    (if (xs.length : Int) < (ys.length : Int) then (some (-1)) else (if (xs.length : Int) > (ys.length : Int) then (some 1) else (some 0))) = some (cmpRow (xs.drop i) (ys.drop i)) := by
  by_cases hx : i < xs.length
  · have hy : i = ys.length := by omega
    rw [if_neg (by omega), if_pos (by omega), drop_cons_getD z29 hx, show ys.drop i = [] from List.drop_eq_nil_of_le (by omega), cmpRow]
  · by_cases hy : i < ys.length
    · rw [if_pos (by omega), drop_cons_getD z29 hy, show xs.drop i = [] from List.drop_eq_nil_of_le (by omega), cmpRow]
    · rw [if_neg (by omega), if_neg (by omega), show xs.drop i = [] from List.drop_eq_nil_of_le (by omega), show ys.drop i = [] from List.drop_eq_nil_of_le (by omega), cmpRow]
theorem specCompareRow_loop (xs ys : List S29) (hn : xs.length ≤ 9223372036854775807) : ∀ (n i : Nat), xs.length - i = n → i ≤ xs.length → i ≤ ys.length → Ev (fun k => spec_CompareRow.l0 k xs ys i) (cmpRow (xs.drop i) (ys.drop i)) := by
  intro n
  induction n with
  | zero =>
    intro i h1 h2 h3
    refine Ev.step (fun k => rfl) (ev_if_neg (by omega) (Ev.step (fun k => rfl) (ev_some fun _ => specCompareRow_tail xs ys i (.inl (by omega)) h2 h3)))
  | succ n ih =>
    intro i h1 h2 h3
    have hi : i < xs.length := by omega
    refine Ev.step (fun k => rfl) (ev_if_pos (by omega) (Ev.step (fun k => rfl) ?_))
    by_cases hy : i < ys.length
    · refine ev_if_pos (decide_eq_true (by omega)) (ev_if_pos (by omega) (ev_if_pos (by omega) (ev_if_pos (by omega) ?_)))
      refine ev_bind0 (a := cmpW (xs.getD i z29) (ys.getD i z29)) (by rw [← Int.toNat_natCast i]; rfl) ?_
      rw [wrap_succ hi hn, drop_cons_getD z29 hi, drop_cons_getD z29 hy, cmpRow]
      by_cases hc : cmpW (xs.getD i z29) (ys.getD i z29) = 0
      · rw [if_pos hc]
        exact ev_if_pos hc (ih (i + 1) (by omega) (by omega) (by omega))
      · rw [if_neg hc]
        exact ev_if_neg hc (ev_some fun _ => rfl)
    · exact ev_if_neg (by simpa using hy) (ev_some fun _ => specCompareRow_tail xs ys i (.inr (by omega)) h2 h3)
theorem specCompareRow_is (xs ys : List S29) (hn : xs.length ≤ 9223372036854775807) : Ev (fun k => spec_CompareRow.f k xs ys) (cmpRow xs ys) := specCompareRow_loop xs ys hn xs.length 0 rfl (Nat.zero_le _) (Nat.zero_le _)
theorem implCompareRow_is4 (k : Nat) : ∀ xs ys, impl_CompareRow.f (k + 4) xs ys = some (cmpRow xs ys)
  | [], [] => rfl
  | [], _ :: _ => rfl
  | _ :: _, [] => rfl
  | x :: xs, y :: ys => by
    have ih := implCompareRow_is4 k xs ys
    unfold impl_CompareRow.f at ih ⊢
    rw [cmpO, compareValue_is, Option.bind_some, cmpRow, ih]
    show (if cmpW x y = 0 then _ else some (cmpW x y)) = _
    by_cases hc : cmpW x y = 0 <;> simp [hc]
theorem implCompareRow_is (xs ys : List S29) : Ev (fun k => impl_CompareRow.f k xs ys) (cmpRow xs ys) := ⟨4, fun k hk => by
  obtain ⟨m, rfl⟩ : ∃ m, k = m + 4 := ⟨k - 4, by omega⟩
  exact implCompareRow_is4 m xs ys⟩
def wtR (x : S99) : Nat := x.f0.size + wtCS x.f1.f1
def wtRS (l : List S99) : Nat := l.length + (l.map wtR).sum
def okR (x : S99) : Prop := x.f0.size ≤ 9223372036854775807 ∧ x.f1.f1.length ≤ 9223372036854775807 ∧ ∀ y ∈ x.f1.f1, okC y
theorem szRel_is (a : ByteArray) (w : Int) (xs : List S153) (ha : a.size ≤ 9223372036854775807) (hn : xs.length ≤ 9223372036854775807) (hx : ∀ x ∈ xs, okC x) (l : Int) (h0 : 0 ≤ l) (h1 : l ≤ 1048576) : Ev (fun k => laws_szRel.f k a w xs l) (lft l (a.size + wtCS xs)) := by
  unfold laws_szRel.f
  rw [wrap_id (x := l - (a.size : Int)) (by omega) (by omega)]
  by_cases h : l - (a.size : Int) < 0
  · exact ev_if_pos h (ev_conv (ev_some fun _ => rfl) (lft_of_gt (by omega)).symm)
  · refine ev_if_neg h (Ev.bind (szBag_is w xs hn hx _ (by omega) (by omega)) ?_)
    by_cases g : (wtCS xs : Int) ≤ l - (a.size : Int)
    · rw [lft_of_le g, lft_of_le (by omega)]
      exact ev_if_neg (by omega) (ev_some fun _ => by congr 1; omega)
    · rw [lft_of_gt g, lft_of_gt (by omega)]
      exact ev_if_pos (by omega) (ev_some fun _ => rfl)
theorem szRelS_is (xs : List S99) (hn : xs.length ≤ 9223372036854775807) (hx : ∀ x ∈ xs, okR x) (l : Int) (h0 : 0 ≤ l) (h1 : l ≤ 1048576) : Ev (fun k => laws_szRelS.f k xs l) (lft l (wtRS xs)) :=
  sz_list z99 laws_szRelS.f laws_szRelS.l0 (fun k x l => laws_szRel.f k x.f0 x.f1.f0 x.f1.f1 l) wtR (fun _ _ _ => rfl) (fun _ _ _ _ => rfl) xs hn (fun x hx' l h0 h1 => szRel_is _ _ _ (hx x hx').1 (hx x hx').2.1 (hx x hx').2.2 l h0 h1) l h0 h1
theorem rel_bounds {xs : List S99} {l : Int} (h : (wtRS xs : Int) ≤ l) (hl : l ≤ 1048576) : xs.length ≤ 1048576 ∧ ∀ x ∈ xs, x.f1.f1.length ≤ 1048576 ∧ ∀ y ∈ x.f1.f1, y.f0.length ≤ 1048576 := by
  unfold wtRS at h
  refine ⟨by omega, fun x hx => ?_⟩
  have h1 := sum_le_of_mem wtR hx
  have h2 : wtCS x.f1.f1 ≤ wtR x := Nat.le_add_left _ _
  have h3 : (wtCS x.f1.f1 : Int) ≤ l := by omega
  unfold wtCS at h3
  refine ⟨by omega, fun y hy => ?_⟩
  have h4 := sum_le_of_mem wtC hy
  have h5 : y.f0.length ≤ wtC y := by unfold wtC wtVS; omega
  omega
def toR (x : S99) : S105 := ⟨x.f0, ⟨x.f1.f0, x.f1.f1.map toC⟩⟩
theorem toRelS_is (xs : List S99) (hn : xs.length ≤ 5864062014805) (hx : ∀ x ∈ xs, x.f1.f1.length ≤ 1048576 ∧ ∀ y ∈ x.f1.f1, y.f0.length ≤ 1048576) : Ev (fun k => laws_toRelS.f k xs) (xs.map toR) :=
  map_list z99 z105 laws_toRelS.f laws_toRelS.l0 (fun k x => laws_toRel.f k x.f0 x.f1.f0 x.f1.f1) (fun bt => (⟨bt.1, (⟨bt.2.1, bt.2.2⟩ : S45)⟩ : S105)) (fun x => (x.f0, x.f1.f0, x.f1.f1.map toC)) 5864062014805 (fun _ _ => rfl) (fun _ _ _ _ => rfl) xs hn (by omega) (fun x h => Ev.bind (toBag_is _ _ (by have := (hx x h).1; omega) (fun y hy => by have := (hx x h).2 y hy; omega)) (ev_some fun _ => rfl))
theorem eqRel_refl (a : ByteArray) (w : Int) (xs : List S89) (hn : xs.length ≤ 9223372036854775807) (hx : ∀ x ∈ xs, x.f0.length ≤ 9223372036854775807) : Ev (fun k => laws_eqRel.f k a w xs a w xs) true := by
  refine Ev.congr (fun k => if_pos rfl) (Ev.bind (eqBag_refl w xs hn hx) (f := fun k t => if t = true then some true else some false) ?_)
  exact ev_some fun _ => by simp
theorem eqRelS_refl (xs : List S105) (hn : xs.length ≤ 9223372036854775807) (hx : ∀ x ∈ xs, x.f1.f1.length ≤ 9223372036854775807 ∧ ∀ y ∈ x.f1.f1, y.f0.length ≤ 9223372036854775807) : Ev (fun k => laws_eqRelS.f k xs xs) true :=
  eq_list z105 laws_eqRelS.f laws_eqRelS.l0 (fun k x y => laws_eqRel.f k x.f0 x.f1.f0 x.f1.f1 y.f0 y.f1.f0 y.f1.f1) (fun _ _ _ => rfl) (fun _ _ _ _ => rfl) xs hn (fun x h => eqRel_refl _ _ _ (hx x h).1 (hx x h).2)
theorem toR_len {xs : List S99} (h : ∀ x ∈ xs, x.f1.f1.length ≤ 1048576 ∧ ∀ y ∈ x.f1.f1, y.f0.length ≤ 1048576) : ∀ x ∈ xs.map toR, x.f1.f1.length ≤ 9223372036854775807 ∧ ∀ y ∈ x.f1.f1, y.f0.length ≤ 9223372036854775807 := by
  intro y hy
  obtain ⟨x, hx, rfl⟩ := List.mem_map.1 hy
  refine ⟨by have := (h x hx).1; simp [toR]; omega, toC_len fun z hz => by have := (h x hx).2 z hz; omega⟩
/-- A row of values, so many. -/
def RowP (xs : List S29) (w : Int) : Prop := (∀ x ∈ xs, okV x.f0 x.f1 x.f2.data.toList = true) ∧ (xs.length : Int) = w
theorem l01In_is (a b c : Int) : spec_l01In.f a b c = some (decide (b ≤ a ∧ a ≤ c)) := by
  unfold spec_l01In.f
  by_cases h : a ≥ b
  · rw [if_pos h]
    by_cases h' : a ≤ c <;> simp [h', show b ≤ a from h]
  · rw [if_neg h, decide_eq_false (by omega)]
theorem spec_row_is (xs : List S29) (w : Int) (hn : xs.length ≤ 9223372036854775807) (r : Bool) (hr : r = true ↔ RowP xs w) : Ev (fun k => spec_l02Row.f k xs w) r := by
  refine all_loop xs.length (fun k i => spec_l02Row.l0 k xs w i) (fun j => okV (xs.getD j z29).f0 (xs.getD j z29).f1 (xs.getD j z29).f2.data.toList = true) ((xs.length : Int) = w) ?_ ?_ r (hr.trans ?_)
  · intro r hr
    refine Ev.step (fun k => rfl) (ev_if_neg (by omega) (ev_some fun _ => ?_))
    congr 1
    rw [Bool.eq_iff_iff, hr, beq_iff_eq]
  · intro i hi r next no
    refine Ev.step (fun k => rfl) (ev_if_pos (by omega) (ev_if_pos (by omega) (ev_bind0 (specValueOk_is _ _ _) ?_)))
    rw [wrap_succ hi hn]
    by_cases h : okV (xs.getD i z29).f0 (xs.getD i z29).f1 (xs.getD i z29).f2.data.toList = true
    · exact ev_if_pos h (next h)
    · exact ev_if_neg h (ev_conv (ev_some fun _ => rfl) (no h).symm)
  · unfold RowP
    rw [forall_getD z29 (p := fun x => okV x.f0 x.f1 x.f2.data.toList = true)]
theorem allO_eq {α : Type} {f : α → Option Bool} {g : α → Bool} : ∀ {xs : List α}, (∀ x ∈ xs, f x = some (g x)) → allO f xs = some (xs.all g)
  | [], _ => rfl
  | x :: xs, h => by
    rw [allO, h x (List.mem_cons_self ..), Option.bind_some, List.all_cons]
    cases g x with
    | false => rfl
    | true => rw [if_pos rfl, allO_eq fun y hy => h y (List.mem_cons_of_mem _ hy), Bool.true_and]
theorem allO_ev {α : Type} {f : Nat → α → Option Bool} {g : α → Bool} : ∀ {xs : List α}, (∀ x ∈ xs, Ev (fun k => f k x) (g x)) → Ev (fun k => allO (f k) xs) (xs.all g)
  | [], _ => ev_some fun _ => rfl
  | x :: xs, h => by
    refine Ev.bind (h x (List.mem_cons_self ..)) (f := fun k b => if b = true then allO (f k) xs else some false) ?_
    rw [List.all_cons]
    cases hg : g x with
    | false => exact ev_if_neg (by simp) (ev_some fun _ => rfl)
    | true => exact ev_if_pos rfl (ev_conv (allO_ev fun y hy => h y (List.mem_cons_of_mem _ hy)) (Bool.true_and _).symm)
theorem within_is (a b c : Int) : impl_within.f a b c = some (decide (b ≤ a ∧ a ≤ c)) := by
  unfold impl_within.f
  by_cases h : b ≤ a
  · rw [if_pos h]
    by_cases h' : a ≤ c <;> simp [h', h]
  · rw [if_neg h, decide_eq_false (by omega)]
theorem impl_row_is (xs : List S29) (w : Int) (r : Bool) (hr : r = true ↔ RowP xs w) : impl_isRow.f xs w = some r := by
  unfold impl_isRow.f
  by_cases h : (xs.length : Int) = w
  · rw [if_pos h, allO_eq (g := fun x => okV x.f0 x.f1 x.f2.data.toList) fun x _ => implValueOk_is _ _ _]
    congr 1
    rw [Bool.eq_iff_iff, hr, List.all_eq_true]
    exact ⟨fun g => ⟨g, h⟩, fun g => g.1⟩
  · rw [if_neg h]
    cases r with
    | false => rfl
    | true => exact absurd (hr.1 rfl).2 h
def CntP (w : Int) (xs : List S89) (j : Nat) : Prop :=
  RowP (xs.getD j z89).f0 w ∧ (xs.getD j z89).f1 ≠ 0 ∧ (-1000000000 ≤ (xs.getD j z89).f1 ∧ (xs.getD j z89).f1 ≤ 1000000000) ∧ (0 < j → cmpRow (xs.getD (j - 1) z89).f0 (xs.getD j z89).f0 < 0)
/-- A bag. -/
def BagP (w : Int) (xs : List S89) : Prop := (∀ j, j < xs.length → CntP w xs j) ∧ (0 ≤ w ∧ w ≤ 12) ∧ xs.length ≤ 400
open Classical in
theorem spec_bagOk_is (w : Int) (xs : List S89) (hn : xs.length ≤ 1048576) (hx : ∀ x ∈ xs, x.f0.length ≤ 1048576) (r : Bool) (hr : r = true ↔ BagP w xs) : Ev (fun k => spec_BagOk.f k w xs) r := by
  refine all_loop xs.length (fun k i => spec_BagOk.l0 k i w xs) (CntP w xs) ((0 ≤ w ∧ w ≤ 12) ∧ xs.length ≤ 400) ?_ ?_ r hr
  · intro r hr
    refine Ev.step (fun k => rfl) (ev_if_neg (by omega) (ev_some fun _ => ?_))
    rw [l01In_is, Option.bind_some]
    by_cases h : 0 ≤ w ∧ w ≤ 12
    · rw [if_pos (decide_eq_true h)]
      congr 1
      rw [Bool.eq_iff_iff, hr, decide_eq_true_eq]
      exact ⟨fun g => ⟨h, by omega⟩, fun g => by have := g.2; omega⟩
    · rw [if_neg (by simpa using h)]
      cases r with
      | false => rfl
      | true => exact absurd (hr.1 rfl).1 h
  · intro i hi r next no
    have len : ∀ j, j < xs.length → (xs.getD j z89).f0.length ≤ 9223372036854775807 := fun j hj => Nat.le_trans (hx _ (getD_mem _ hj)) (by omega)
    have stop : ¬ CntP w xs i → Ev (fun _ : Nat => some false) r := fun g => ev_conv (ev_some fun _ => rfl) (no g).symm
    refine Ev.step (fun k => rfl) (ev_if_pos (by omega) (ev_if_pos (by omega) (Ev.bind (spec_row_is (xs.getD i z89).f0 w (len i hi) (decide (RowP (xs.getD i z89).f0 w)) decide_eq_true_iff) ?_)))
    by_cases h1 : RowP (xs.getD i z89).f0 w
    case neg => exact ev_if_neg (by simpa using h1) (stop fun g => h1 g.1)
    refine ev_if_pos (decide_eq_true h1) ?_
    by_cases h2 : (xs.getD i z89).f1 = 0
    case pos => exact ev_if_pos h2 (stop fun g => g.2.1 h2)
    refine ev_if_neg h2 (ev_bind0 (l01In_is _ _ _) ?_)
    by_cases h3 : -1000000000 ≤ (xs.getD i z89).f1 ∧ (xs.getD i z89).f1 ≤ 1000000000
    case neg => exact ev_if_neg (by rw [decide_eq_true_eq]; exact h3) (stop fun g => h3 g.2.2.1)
    refine ev_if_pos (decide_eq_true h3) ?_
    rw [wrap_succ hi (by omega)]
    by_cases h4 : 0 < i
    case neg => exact ev_if_neg (by omega) (next ⟨h1, h2, h3, fun g => absurd g h4⟩)
    rw [wrap_pred h4 (by omega)]
    refine ev_if_pos (by omega) (ev_if_pos (by omega) (ev_if_pos (by omega) (Ev.bind (specCompareRow_is (xs.getD (i - 1) z89).f0 (xs.getD i z89).f0 (len (i - 1) (by omega))) ?_)))
    by_cases h5 : cmpRow (xs.getD (i - 1) z89).f0 (xs.getD i z89).f0 ≥ 0
    · exact ev_if_pos h5 (stop fun g => by have := g.2.2.2 h4; omega)
    · exact ev_if_neg h5 (next ⟨h1, h2, h3, fun _ => by omega⟩)
open Classical in
theorem impl_bagOk_is (w : Int) (xs : List S89) (hn : xs.length ≤ 1048576) (r : Bool) (hr : r = true ↔ BagP w xs) : Ev (fun k => impl_BagOk.f k w xs) r := by
  unfold impl_BagOk.f
  rw [within_is]
  refine Ev.congr (fun k => Option.bind_some _ _) ?_
  have no : ¬ BagP w xs → r = false := fun h => by
    cases r with
    | false => rfl
    | true => exact absurd (hr.1 rfl) h
  by_cases hw : 0 ≤ w ∧ w ≤ 12
  case neg => exact ev_if_neg (by rw [decide_eq_true_eq]; exact hw) (Ev.step (fun k => rfl) (ev_conv (ev_some fun _ => rfl) (no fun g => hw g.2.1).symm))
  refine ev_if_pos (decide_eq_true hw) ?_
  by_cases hl : (xs.length : Int) > 400
  case pos => exact Ev.step (fun k => rfl) (ev_if_pos (decide_eq_true hl) (ev_conv (ev_some fun _ => rfl) (no fun g => by have := g.2.2; omega).symm))
  refine Ev.step (fun k => rfl) (ev_if_neg (by rw [decide_eq_true_eq]; exact hl) ?_)
  refine all_loop xs.length (fun k i => impl_BagOk.l0 k xs (xs.length : Int) i w xs) (CntP w xs) True ?_ ?_ r (hr.trans ⟨fun g => ⟨g.1, trivial⟩, fun g => ⟨g.1, hw, by omega⟩⟩)
  · intro r hr
    exact Ev.step (fun k => rfl) (ev_if_neg (by omega) (ev_conv (ev_some fun _ => rfl) (hr.2 trivial).symm))
  · intro i hi r next no
    have stop : ¬ CntP w xs i → Ev (fun _ : Nat => some false) r := fun g => ev_conv (ev_some fun _ => rfl) (no g).symm
    refine Ev.step (fun k => rfl) (ev_if_pos (by omega) (ev_if_pos (by omega) (ev_if_pos (by omega) (ev_bind0 (impl_row_is (xs.getD i z89).f0 w (decide (RowP (xs.getD i z89).f0 w)) decide_eq_true_iff) ?_))))
    by_cases h1 : RowP (xs.getD i z89).f0 w
    case neg => exact ev_if_neg (by simpa using h1) (stop fun g => h1 g.1)
    refine ev_if_pos (decide_eq_true h1) ?_
    by_cases h2 : (xs.getD i z89).f1 = 0
    case pos => exact ev_if_pos h2 (stop fun g => g.2.1 h2)
    refine ev_if_neg h2 (ev_bind0 (within_is _ _ _) ?_)
    by_cases h3 : -1000000000 ≤ (xs.getD i z89).f1 ∧ (xs.getD i z89).f1 ≤ 1000000000
    case neg => exact ev_if_neg (by rw [decide_eq_true_eq]; exact h3) (stop fun g => h3 g.2.2.1)
    refine ev_if_pos (decide_eq_true h3) ?_
    rw [wrap_succ hi (by omega)]
    by_cases h4 : 0 < i
    case neg => exact ev_if_neg (by omega) (next ⟨h1, h2, h3, fun g => absurd g h4⟩)
    rw [wrap_pred h4 (by omega)]
    refine ev_if_pos (by omega) (ev_if_pos (by omega) (ev_if_pos (by omega) (Ev.bind (implCompareRow_is (xs.getD (i - 1) z89).f0 (xs.getD i z89).f0) ?_)))
    by_cases h5 : cmpRow (xs.getD (i - 1) z89).f0 (xs.getD i z89).f0 ≥ 0
    · exact ev_if_pos h5 (stop fun g => by have := g.2.2.2 h4; omega)
    · exact ev_if_neg h5 (next ⟨h1, h2, h3, fun _ => by omega⟩)
/-- A plain bag. -/
def PlainP (w : Int) (xs : List S89) : Prop := (∀ x ∈ xs, 0 ≤ x.f1) ∧ BagP w xs
open Classical in
theorem spec_plain_is (w : Int) (xs : List S89) (hn : xs.length ≤ 1048576) (hx : ∀ x ∈ xs, x.f0.length ≤ 1048576) (r : Bool) (hr : r = true ↔ PlainP w xs) : Ev (fun k => spec_Plain.f k w xs) r := by
  refine all_loop xs.length (fun k i => spec_Plain.l0 k i w xs) (fun j => 0 ≤ (xs.getD j z89).f1) (BagP w xs) ?_ ?_ r (hr.trans ?_)
  · intro r hr
    exact Ev.step (fun k => rfl) (ev_if_neg (by omega) (Ev.bind (spec_bagOk_is w xs hn hx r hr) (ev_some fun _ => rfl)))
  · intro i hi r next no
    refine Ev.step (fun k => rfl) (ev_if_pos (by omega) (ev_if_pos (by omega) ?_))
    rw [wrap_succ hi (by omega)]
    by_cases h : (xs.getD i z89).f1 < 0
    · exact ev_if_pos h (ev_conv (ev_some fun _ => rfl) (no (by omega)).symm)
    · exact ev_if_neg h (next (by omega))
  · unfold PlainP
    rw [forall_getD z89 (p := fun x => 0 ≤ x.f1)]
open Classical in
theorem impl_plain_is (w : Int) (xs : List S89) (hn : xs.length ≤ 1048576) (r : Bool) (hr : r = true ↔ PlainP w xs) : Ev (fun k => impl_Plain.f k w xs) r := by
  unfold impl_Plain.f
  refine Ev.bind (impl_bagOk_is w xs hn (decide (BagP w xs)) decide_eq_true_iff) ?_
  by_cases hb : BagP w xs
  · refine ev_if_pos (decide_eq_true hb) (ev_some fun _ => ?_)
    rw [allO_eq (f := fun x : S89 => impl_Plain_1.f x.f0 x.f1) (g := fun x => decide (x.f1 > 0)) fun x _ => rfl]
    congr 1
    rw [Bool.eq_iff_iff, hr, List.all_eq_true]
    have ne : ∀ x ∈ xs, x.f1 ≠ 0 := (forall_getD z89 (p := fun x => x.f1 ≠ 0)).1 fun j hj => (hb.1 j hj).2.1
    refine ⟨fun h => ⟨fun x hx => ?_, hb⟩, fun h x hx => decide_eq_true ?_⟩
    · have := of_decide_eq_true (h x hx)
      omega
    · have h1 := ne x hx
      have h2 := h.1 x hx
      omega
  · refine ev_if_neg (by simpa using hb) (ev_conv (ev_some fun _ => rfl) ?_)
    cases r with
    | false => rfl
    | true => exact absurd (hr.1 rfl).2 hb
def RelP (xs : List S105) (j : Nat) : Prop :=
  NameP (xs.getD j z105).f0 ∧ PlainP (xs.getD j z105).f1.f0 (xs.getD j z105).f1.f1 ∧ (0 < j → Op.bytesLess (xs.getD (j - 1) z105).f0.toList (xs.getD j z105).f0.toList = true)
/-- A database. -/
def DbP (xs : List S105) : Prop := (∀ j, j < xs.length → RelP xs j) ∧ xs.length ≤ 20
open Classical in
theorem spec_dbOk_is (xs : List S105) (hn : xs.length ≤ 1048576) (hx : ∀ x ∈ xs, x.f0.size ≤ 9223372036854775807 ∧ x.f1.f1.length ≤ 1048576 ∧ ∀ y ∈ x.f1.f1, y.f0.length ≤ 1048576) (r : Bool) (hr : r = true ↔ DbP xs) : Ev (fun k => spec_DbOk.f k xs) r := by
  refine all_loop xs.length (fun k i => spec_DbOk.l0 k xs i) (RelP xs) (xs.length ≤ 20) ?_ ?_ r hr
  · intro r hr
    refine Ev.step (fun k => rfl) (ev_if_neg (by omega) (ev_some fun _ => ?_))
    congr 1
    rw [Bool.eq_iff_iff, hr, decide_eq_true_eq]
    omega
  · intro i hi r next no
    have hl := hx _ (getD_mem z105 hi)
    have stop : ¬ RelP xs i → Ev (fun _ : Nat => some false) r := fun g => ev_conv (ev_some fun _ => rfl) (no g).symm
    refine Ev.step (fun k => rfl) (ev_if_pos (by omega) (ev_if_pos (by omega) (Ev.bind (spec_nameOk_is (xs.getD i z105).f0 hl.1 (decide (NameP (xs.getD i z105).f0)) decide_eq_true_iff) ?_)))
    by_cases h1 : NameP (xs.getD i z105).f0
    case neg => exact ev_if_neg (by simpa using h1) (stop fun g => h1 g.1)
    refine ev_if_pos (decide_eq_true h1) (Ev.bind (spec_plain_is (xs.getD i z105).f1.f0 (xs.getD i z105).f1.f1 hl.2.1 hl.2.2 (decide (PlainP (xs.getD i z105).f1.f0 (xs.getD i z105).f1.f1)) decide_eq_true_iff) ?_)
    by_cases h2 : PlainP (xs.getD i z105).f1.f0 (xs.getD i z105).f1.f1
    case neg => exact ev_if_neg (by simpa using h2) (stop fun g => h2 g.2.1)
    refine ev_if_pos (decide_eq_true h2) ?_
    rw [wrap_succ hi (by omega)]
    by_cases h4 : 0 < i
    case neg => exact ev_if_neg (by omega) (next ⟨h1, h2, fun g => absurd g h4⟩)
    rw [wrap_pred h4 (by omega)]
    refine ev_if_pos (by omega) (ev_if_pos (by omega) (ev_if_pos (by omega) ?_))
    by_cases h5 : Op.bytesLess (xs.getD (i - 1) z105).f0.toList (xs.getD i z105).f0.toList = true
    · exact ev_if_pos h5 (next ⟨h1, h2, fun _ => h5⟩)
    · exact ev_if_neg h5 (stop fun g => h5 (g.2.2 h4))
def RiseAt (ns : List ByteArray) (j : Nat) : Prop := NameP (ns.getD j ByteArray.empty) ∧ (0 < j → Op.bytesLess (ns.getD (j - 1) ByteArray.empty).toList (ns.getD j ByteArray.empty).toList = true)
open Classical in
theorem impl_isRising_is (ns : List ByteArray) (hn : ns.length ≤ 9223372036854775807) (r : Bool) (hr : r = true ↔ ∀ j, j < ns.length → RiseAt ns j) : Ev (fun k => impl_isRising.f k ns) r := by
  refine all_loop ns.length (fun k i => impl_isRising.l0 k ns ns (ns.length : Int) i) (RiseAt ns) True ?_ ?_ r (hr.trans ⟨fun h => ⟨h, trivial⟩, fun h => h.1⟩)
  · intro r hr
    exact Ev.step (fun k => rfl) (ev_if_neg (by omega) (ev_conv (ev_some fun _ => rfl) (hr.2 trivial).symm))
  · intro i hi r next no
    have stop : ¬ RiseAt ns i → Ev (fun _ : Nat => some false) r := fun g => ev_conv (ev_some fun _ => rfl) (no g).symm
    refine Ev.step (fun k => rfl) (ev_if_pos (by omega) (ev_if_pos (by omega) (ev_if_pos (by omega) (ev_bind0 (impl_nameOk_is (ns.getD i ByteArray.empty) (decide (NameP (ns.getD i ByteArray.empty))) decide_eq_true_iff) ?_))))
    by_cases h1 : NameP (ns.getD i ByteArray.empty)
    case neg => exact ev_if_neg (by simpa using h1) (stop fun g => h1 g.1)
    refine ev_if_pos (decide_eq_true h1) ?_
    rw [wrap_succ hi hn]
    by_cases h4 : 0 < i
    case neg => exact ev_if_neg (by omega) (next ⟨h1, fun g => absurd g h4⟩)
    rw [wrap_pred h4 (by omega)]
    refine ev_if_pos (by omega) (ev_if_pos (by omega) (ev_if_pos (by omega) ?_))
    by_cases h5 : Op.bytesLess (ns.getD (i - 1) ByteArray.empty).toList (ns.getD i ByteArray.empty).toList = true
    · exact ev_if_pos h5 (next ⟨h1, fun _ => h5⟩)
    · exact ev_if_neg h5 (stop fun g => h5 (g.2 h4))
theorem impl_relNames_is (xs : List S105) (hn : xs.length ≤ 1048576) : Ev (fun k => impl_relNames.f k xs) (xs.map fun x => x.f0) := by
  have h : ∀ (n i : Nat) (ys : List ByteArray), xs.length - i = n → i ≤ xs.length → ys = (xs.take i).map (fun x => x.f0) → Ev (fun k => impl_relNames.l0 k ys xs (xs.length : Int) i) (xs.map fun x => x.f0) := by
    intro n
    induction n with
    | zero =>
      intro i ys h1 h2 h3
      refine Ev.step (fun k => rfl) (ev_if_neg (by omega) (ev_conv (ev_some fun _ => rfl) ?_))
      rw [h3, List.take_of_length_le (by omega)]
    | succ n ih =>
      intro i ys h1 h2 h3
      have hi : i < xs.length := by omega
      have hl : ys.length = i := by rw [h3]; simp; omega
      refine Ev.step (fun k => rfl) (ev_if_pos (by omega) (ev_if_pos (by omega) (ev_if_pos (by omega) (ev_if_pos (by omega) ?_))))
      rw [wrap_succ hi (by omega)]
      refine ih (i + 1) _ (by omega) (by omega) ?_
      rw [h3, List.take_succ_eq_append_getElem hi, List.map_append]
      have : (xs.getD i z105) = xs[i] := by rw [List.getD_eq_getElem?_getD, List.getElem?_eq_getElem hi]; rfl
      rw [List.map_cons, List.map_nil, ← this]
      rfl
  exact h xs.length 0 [] rfl (Nat.zero_le _) rfl
open Classical in
theorem impl_dbOk_is (xs : List S105) (hn : xs.length ≤ 1048576) (hx : ∀ x ∈ xs, x.f0.size ≤ 9223372036854775807 ∧ x.f1.f1.length ≤ 1048576 ∧ ∀ y ∈ x.f1.f1, y.f0.length ≤ 1048576) (r : Bool) (hr : r = true ↔ DbP xs) : Ev (fun k => impl_DbOk.f k xs) r := by
  have no : ¬ DbP xs → r = false := fun h => by
    cases r with
    | false => rfl
    | true => exact absurd (hr.1 rfl) h
  have nm : ∀ j, j < xs.length → (xs.map fun x => x.f0).getD j ByteArray.empty = (xs.getD j z105).f0 := fun j hj => by
    rw [List.getD_eq_getElem?_getD, List.getElem?_eq_getElem (by simpa using hj), List.getD_eq_getElem?_getD, List.getElem?_eq_getElem hj]
    simp
  by_cases hl : (xs.length : Int) ≤ 20
  case neg => exact ev_if_neg hl (ev_conv (ev_some fun _ => rfl) (no fun g => by have := g.2; omega).symm)
  refine ev_if_pos hl (Ev.bind (impl_relNames_is xs hn) (Ev.bind (impl_isRising_is (xs.map fun x => x.f0) (by simp; omega) (decide (∀ j, j < (xs.map fun x => x.f0).length → RiseAt (xs.map fun x => x.f0) j)) decide_eq_true_iff) ?_))
  by_cases h1 : ∀ j, j < (xs.map fun x => x.f0).length → RiseAt (xs.map fun x => x.f0) j
  case neg =>
    refine ev_if_neg (by rw [decide_eq_true_eq]; exact h1) (ev_conv (ev_some fun _ => rfl) (no fun g => h1 fun j hj => ?_).symm)
    have hj' : j < xs.length := by simpa using hj
    have := g.1 j hj'
    refine ⟨by rw [nm j hj']; exact this.1, fun h0 => ?_⟩
    rw [nm j hj', nm (j - 1) (by omega)]
    exact this.2.2 h0
  refine ev_if_pos (decide_eq_true h1) ?_
  have hp : ∀ x ∈ xs, Ev (fun k => impl_DbOk_1.f k x.f0 x.f1.f0 x.f1.f1) (decide (PlainP x.f1.f0 x.f1.f1)) := fun x hx' => Ev.bind (impl_plain_is x.f1.f0 x.f1.f1 (hx x hx').2.1 _ decide_eq_true_iff) (ev_some fun _ => rfl)
  refine ev_conv (allO_ev hp) ?_
  rw [Bool.eq_iff_iff, hr, List.all_eq_true]
  constructor
  · intro h
    refine ⟨fun j hj => ?_, by omega⟩
    have h2 := h1 j (by simpa using hj)
    refine ⟨by have := h2.1; rwa [nm j hj] at this, of_decide_eq_true (h _ (getD_mem z105 hj)), fun h0 => ?_⟩
    have := h2.2 h0
    rwa [nm j hj, nm (j - 1) (by omega)] at this
  · intro h x hx'
    exact decide_eq_true ((forall_getD z105 (p := fun x => PlainP x.f1.f0 x.f1.f1)).1 (fun j hj => (h.1 j hj).2.1) x hx')
end Go.Proofs.Ytmkllhkhiefbnaa.PFnExactDbOk
