/- Plain lemmas on what the functions of the law FnExactReckon compute: numbers and lists alone. -/
import Derived.Test.YtmkllhkhiefbnaaPFnExactReckonx0
import Derived.Test.YtmkllhkhiefbnaaPFnExactReckonx1
import Derived.Test.YtmkllhkhiefbnaaPFnExactReckonx2
import Derived.Test.YtmkllhkhiefbnaaPFnExactReckonx3
import Derived.Test.YtmkllhkhiefbnaaPFnExactReckonx4
import Derived.Test.YtmkllhkhiefbnaaPFnExactReckonx5
import Derived.Test.YtmkllhkhiefbnaaPFnExactReckonx6
import Derived.Test.YtmkllhkhiefbnaaPFnExactReckonx7
import Derived.Test.YtmkllhkhiefbnaaPFnExactReckonx8
import Derived.Test.YtmkllhkhiefbnaaPFnExactReckonx9
import Derived.Test.YtmkllhkhiefbnaaOpen
import Derived.Test.YtmkllhkhiefbnaaZFnExactReckon
namespace Go.Proofs.Ytmkllhkhiefbnaa.PFnExactReckon
open Go.RowKit Go.Proofs.YtmkllhkhiefbnaaW.PrintWords Go.Proofs.YtmkllhkhiefbnaaW.PrintLast Go.Proofs.YtmkllhkhiefbnaaW.PrintMore Go.Proofs.YtmkllhkhiefbnaaOpen Go.Proofs.Ytmkllhkhiefbnaa.ZFnExactReckon
set_option linter.unusedVariables false
set_option linter.unusedSimpArgs false
/-- What is left of the bound behind a text. -/
theorem szValue_is (a b : Int) (s : ByteArray) (l : Int) (h0 : 0 ≤ l) (h1 : l ≤ 1048576) (hs : s.size ≤ 9223372036854775807) : laws_szValue.f a b s l = some (lft l s.size) := by
  unfold laws_szValue.f
  rw [wrap_id (x := l - (s.size : Int)) (by omega) (by omega)]
  by_cases h : l - (s.size : Int) < 0
  · rw [if_pos h, lft_of_gt (by omega)]
  · rw [if_neg h, lft_of_le (by omega)]
theorem cmpBytes_is (l m : List UInt8) : Go.Lib.compareBytes l m = if Op.bytesLess l m = true then -1 else if (Op.bytesLess l m || l == m) = true then 0 else 1 := by
  induction l generalizing m with
  | nil => cases m <;> simp [Go.Lib.compareBytes, Op.bytesLess]
  | cons a l ih =>
    cases m with
    | nil => simp [Go.Lib.compareBytes, Op.bytesLess]
    | cons b m =>
      simp only [Go.Lib.compareBytes, Op.bytesLess]
      by_cases h : a < b
      · simp [h]
      · by_cases h' : b < a
        · have hne : ¬ a = b := by rintro rfl; exact absurd h' h
          simp [h, h', hne]
        · have e : a = b := by
            apply UInt8.toNat_inj.1
            have h1 : ¬ a.toNat < b.toNat := h
            have h2 : ¬ b.toNat < a.toNat := h'
            omega
          subst e
          simp only [h, if_false, ih]
          simp
def cmpI (a b : Int) : Int := if a < b then -1 else if b < a then 1 else 0
theorem compare_int_is (a b : Int) : cmp_Compare_int.f a b = some (cmpI a b) := by
  unfold cmp_Compare_int.f cmp_isNaN_int.f cmpI
  simp only [Option.bind_some, bne_self_eq_false, Bool.false_eq_true, if_false, gt_iff_lt]
  by_cases h : a < b
  · simp [h]
  · by_cases h' : b < a <;> simp [h, h']
theorem or_three (k : Nat) (a b c : Int) : cmp_Or_int.f (k + 4) [a, b, c] = some (if a = 0 then (if b = 0 then c else b) else a) := by
  have w0 : wrap64 (0 + 1) = 1 := by unfold wrap64; omega
  have w1 : wrap64 (1 + 1) = 2 := by unfold wrap64; omega
  have w2 : wrap64 (2 + 1) = 3 := by unfold wrap64; omega
  unfold cmp_Or_int.f
  simp only [cmp_Or_int.l0, List.length_cons, List.length_nil, w0, w1, w2, rd]
  by_cases ha : a = 0
  · by_cases hb : b = 0
    · by_cases hc : c = 0
      · simp [ha, hb, hc]
      · simp [ha, hb, hc]
    · simp [ha, hb]
  · simp [ha]
theorem compareValue_is (k : Nat) (a b : Int) (s : ByteArray) (a' b' : Int) (s' : ByteArray) : impl_CompareValue.f (k + 4) a b s a' b' s' = some (cmpV a b s a' b' s') := by
  unfold impl_CompareValue.f strings_Compare.f bytealg_CompareString.f
  simp only [compare_int_is, Option.bind_some, or_three, cmpBytes_is]
  unfold cmpV cmpI
  have hd : ∀ z : ByteArray, z.toList = z.data.toList := fun z => ByteArray.toList_eq z
  rw [hd, hd]
  by_cases h1 : a < a'
  · simp [h1]
  · by_cases h2 : a' < a
    · simp [h1, h2]
    · by_cases h3 : b < b'
      · simp [h1, h2, h3]
      · by_cases h4 : b' < b
        · simp [h1, h2, h3, h4]
        · simp [h1, h2, h3, h4]
def nullT : Int × Int × ByteArray := (0, 0, ⟨#[]⟩)
def intT (n : Int) : Int × Int × ByteArray := (1, n, ⟨#[]⟩)
def flagT (b : Bool) : Int × Int × ByteArray := if b = true then (2, 1, ⟨#[]⟩) else (2, 0, ⟨#[]⟩)
def eqT (x y : Int × Int × ByteArray) : Bool := x.1 == y.1 && (x.2.1 == y.2.1 && (x.2.2.toList == y.2.2.toList))
/-- and, or: o is whether it is or. -/
def logicT (o : Bool) (x y : Int × Int × ByteArray) : Int × Int × ByteArray :=
  if (eqT x (flagT o) || eqT y (flagT o)) = true then flagT o else if (eqT x (flagT (!o)) && eqT y (flagT (!o))) = true then flagT (!o) else nullT
def mulOk (x y : Int) : Bool := !(x == -1 && y == -9223372036854775808) && !(y == -1 && x == -9223372036854775808) && (wrap64 (Int.tdiv (wrap64 (x * y)) y) == x)
/-- The arithmetic of two whole numbers. -/
def arithT (op : List UInt8) (x y : Int) : Int × Int × ByteArray :=
  if op = [43] then (if (decide (wrap64 (x + y) > x) != decide (y > 0)) = true then nullT else intT (wrap64 (x + y)))
  else if op = [45] then (if (decide (wrap64 (x - y) < x) != decide (y > 0)) = true then nullT else intT (wrap64 (x - y)))
  else if op = [42] then (if x = 0 then intT 0 else if y = 0 then intT 0 else if mulOk x y = true then intT (wrap64 (x * y)) else nullT)
  else if op = [47] then (if y = 0 then nullT else if (x == -9223372036854775808 && y == -1) = true then nullT else if Int.tmod x y = 0 then intT (wrap64 (Int.tdiv x y)) else if (decide (x < 0) != decide (y < 0)) = true then intT (wrap64 (wrap64 (Int.tdiv x y) - 1)) else intT (wrap64 (Int.tdiv x y)))
  else nullT
def reckT (op : List UInt8) (x y : Int × Int × ByteArray) : Int × Int × ByteArray :=
  if op = [97, 110, 100] then logicT false x y else if op = [111, 114] then logicT true x y
  else if (x.1 != y.1 || x.1 == 0) = true then nullT
  else if op = [61] then flagT (cmpV x.1 x.2.1 x.2.2 y.1 y.2.1 y.2.2 == 0)
  else if op = [60] then flagT (decide (cmpV x.1 x.2.1 x.2.2 y.1 y.2.1 y.2.2 < 0))
  else if (op == [126] && x.1 == 3) = true then flagT (Lib.contains x.2.2.data.toList y.2.2.data.toList)
  else if x.1 = 1 then arithT op x.2.1 y.2.1 else nullT
theorem l01Bool_is (b : Bool) : spec_l01Bool.f b = some (flagT b) := by
  unfold spec_l01Bool.f flagT
  split <;> rfl
theorem l01Logic_is (k : Nat) (op : ByteArray) (a b : Int) (s : ByteArray) (a' b' : Int) (s' : ByteArray) : spec_l01Logic.f (k + 1) op a b s a' b' s' = some (logicT (op.toList == [111, 114]) (a, b, s) (a', b', s')) := by
  unfold spec_l01Logic.f
  rw [l01Bool_is, Option.bind_some, l01Bool_is, Option.bind_some, show (op.toList != ([111, 114] : List UInt8)) = !(op.toList == ([111, 114] : List UInt8)) from rfl]
  generalize (op.toList == ([111, 114] : List UInt8)) = o
  show (if eqT (a, b, s) (flagT o) = true then _ else spec_l01Logic.j0 (k + 1) (eqT (a', b', s') (flagT o)) _ _ _ _ _ _ _ _ _ _ _ _) = _
  have h : ∀ t, spec_l01Logic.j0 (k + 1) t a b s a' b' s' (flagT o).1 (flagT o).2.1 (flagT o).2.2 (flagT (!o)).1 (flagT (!o)).2.1 (flagT (!o)).2.2 = if t = true then some (flagT o) else if eqT (a, b, s) (flagT (!o)) = true then (if eqT (a', b', s') (flagT (!o)) = true then some (flagT (!o)) else some nullT) else some nullT := fun t => rfl
  rw [h, h]
  unfold logicT
  cases eqT (a, b, s) (flagT o) <;> cases eqT (a', b', s') (flagT o) <;> cases eqT (a, b, s) (flagT (!o)) <;> cases eqT (a', b', s') (flagT (!o)) <;> rfl
theorem l01Sum_is (x y : Int) : spec_l01Sum.f x y = some (if (decide (wrap64 (x + y) > x) != decide (y > 0)) = true then nullT else intT (wrap64 (x + y))) := by
  unfold spec_l01Sum.f spec_l01Int.f
  split <;> rfl
theorem l01Product_is (k : Nat) (x y : Int) : spec_l01Product.f (k + 1) x y = some (if x = 0 then intT 0 else if y = 0 then intT 0 else if mulOk x y = true then intT (wrap64 (x * y)) else nullT) := by
  unfold spec_l01Product.f
  by_cases hx : x = 0
  · rw [if_pos hx, if_pos hx]
    rfl
  rw [if_neg hx, if_neg hx]
  by_cases hy : y = 0
  · subst hy
    rfl
  rw [if_neg hy, show (y == 0) = false from beq_eq_false_iff_ne.mpr hy]
  unfold mulOk
  simp only [spec_l01Product.j0, spec_l01Int.f, Option.bind_some, if_neg hy]
  by_cases h1 : x = -1
  · by_cases h2 : y = -9223372036854775808
    · simp [h1, h2, nullT]
    · by_cases h3 : y = -1
      · simp [h1, h3, intT, nullT] <;> (split <;> rfl)
      · simp [h1, h2, h3, intT, nullT] <;> (split <;> rfl)
  · by_cases h3 : y = -1
    · by_cases h4 : x = -9223372036854775808
      · simp [h3, h4, nullT]
      · simp [h1, h3, h4, intT, nullT] <;> (split <;> rfl)
    · simp [h1, h3, intT, nullT] <;> (split <;> rfl)
theorem l01Quotient_is (k : Nat) (x y : Int) : spec_l01Quotient.f (k + 1) x y = some (if y = 0 then nullT else if (x == -9223372036854775808 && y == -1) = true then nullT else if Int.tmod x y = 0 then intT (wrap64 (Int.tdiv x y)) else if (decide (x < 0) != decide (y < 0)) = true then intT (wrap64 (wrap64 (Int.tdiv x y) - 1)) else intT (wrap64 (Int.tdiv x y))) := by
  have h : ∀ t, spec_l01Quotient.j0 (k + 1) x y t = if t = true then some nullT else if y = 0 then none else if Int.tmod x y = 0 then some (intT (wrap64 (Int.tdiv x y))) else if (decide (x < 0) != decide (y < 0)) = true then some (intT (wrap64 (wrap64 (Int.tdiv x y) - 1))) else some (intT (wrap64 (Int.tdiv x y))) := fun t => rfl
  unfold spec_l01Quotient.f
  rw [h, h, h]
  by_cases hy : y = 0
  · simp [hy]
  rw [if_neg hy, if_neg hy, if_neg hy]
  by_cases h1 : y = -1
  · rw [if_pos h1]
    by_cases h2 : x = -9223372036854775808
    · simp [h1, h2]
    · simp only [beq_eq_false_iff_ne.mpr h2, Bool.false_and]
      repeat' split
      all_goals first | rfl | simp_all
  · rw [if_neg h1]
    simp only [beq_eq_false_iff_ne.mpr h1, Bool.and_false]
    repeat' split
    all_goals first | rfl | simp_all
theorem l01Arith_is (k : Nat) (op : ByteArray) (x y : Int) (h0 : -9223372036854775808 ≤ x) (h1 : x ≤ 9223372036854775807) : spec_l01Arith.f (k + 1) op x y = some (arithT op.toList x y) := by
  unfold spec_l01Arith.f arithT
  rw [l01Sum_is, l01Product_is, l01Quotient_is]
  simp only [spec_l01Int.f, Option.bind_some]
  by_cases e1 : op.toList = ([43] : List UInt8)
  · rw [if_pos e1, if_pos e1]
    by_cases hy : y = 0
    · subst hy
      rw [if_pos rfl, show wrap64 (x + 0) = x by rw [Int.add_zero]; exact wrap_id h0 h1, if_neg (by simp)]
      rfl
    · rw [if_neg hy]
  rw [if_neg e1, if_neg e1]
  by_cases e2 : op.toList = ([45] : List UInt8)
  · rw [if_pos e2, if_pos e2]
    by_cases hy : y = 0
    · subst hy
      rw [show wrap64 (x - 0) = x by rw [Int.sub_zero]; exact wrap_id h0 h1, if_neg (by simp), if_neg (by simp)]
      rfl
    · rw [if_neg hy]
      split <;> rfl
  rw [if_neg e2, if_neg e2]
  by_cases e3 : op.toList = ([42] : List UInt8)
  · rw [if_pos e3, if_pos e3]
  rw [if_neg e3, if_neg e3]
  by_cases e4 : op.toList = ([47] : List UInt8)
  · rw [if_pos e4, if_pos e4]
  rw [if_neg e4, if_neg e4]
  rfl
def HoldsP (a b : ByteArray) (i : Nat) : Prop := ∃ j, i ≤ j ∧ j + b.size ≤ a.size ∧ (a.extract j (j + b.size)).toList = b.toList
theorem l01Holds_loop (a b : ByteArray) (ha : a.size ≤ 1048576) (hb : b.size ≤ 1048576) : ∀ (n i : Nat) (r : Bool), a.size + 1 - i = n → i ≤ a.size + 1 → (r = true ↔ HoldsP a b i) → Ev (fun k => spec_l01Holds.l0 k a b i) r := by
  intro n
  induction n with
  | zero =>
    intro i r h1 h2 hr
    have hw : wrap64 ((i : Int) + (b.size : Int)) = ((i + b.size : Nat) : Int) := by rw [wrap_id (by omega) (by omega)]; omega
    refine Ev.step (fun k => rfl) (ev_if_neg (by rw [hw]; omega) (ev_some fun _ => ?_))
    cases r with
    | false => rfl
    | true =>
      obtain ⟨j, j1, j2, _⟩ := hr.1 rfl
      omega
  | succ n ih =>
    intro i r h1 h2 hr
    have hw : wrap64 ((i : Int) + (b.size : Int)) = ((i + b.size : Nat) : Int) := by rw [wrap_id (by omega) (by omega)]; omega
    have hs : wrap64 ((i : Int) + 1) = ((i + 1 : Nat) : Int) := by rw [wrap_id (by omega) (by omega)]; omega
    by_cases hl : i + b.size ≤ a.size
    · refine Ev.step (fun k => rfl) (ev_if_pos (by rw [hw]; omega) (ev_if_pos (by omega) (ev_if_pos (by rw [hw]; omega) ?_)))
      rw [hw, hs]
      by_cases he : (a.extract i (i + b.size)).toList = b.toList
      · exact ev_if_pos he (ev_conv (ev_some fun _ => rfl) (hr.2 ⟨i, Nat.le_refl _, hl, he⟩).symm)
      · refine ev_if_neg he (ih (i + 1) r (by omega) (by omega) (hr.trans ⟨fun ⟨j, j1, j2, j3⟩ => ⟨j, ?_, j2, j3⟩, fun ⟨j, j1, j2, j3⟩ => ⟨j, by omega, j2, j3⟩⟩))
        by_cases e : j = i
        · exact absurd (e ▸ j3) he
        · omega
    · refine Ev.step (fun k => rfl) (ev_if_neg (by rw [hw]; omega) (ev_some fun _ => ?_))
      cases r with
      | false => rfl
      | true =>
        obtain ⟨j, j1, j2, _⟩ := hr.1 rfl
        omega
theorem extract_list (a : ByteArray) (i j : Nat) : (a.extract i j).toList = (a.data.toList.take j).drop i := by
  rw [ByteArray.toList_eq]
  simp [ByteArray.extract, ByteArray.copySlice, List.drop_take]
theorem contains_iff (a b : ByteArray) : Lib.contains a.data.toList b.data.toList = true ↔ HoldsP a b 0 := by
  have hz : ∀ c : ByteArray, c.data.toList.length = c.size := fun c => by simp
  have occ : ∀ j, Lib.occAt a.data.toList b.data.toList j = true ↔ (a.data.toList.drop j).take b.size = b.data.toList := fun j => by
    unfold Lib.occAt
    rw [List.isPrefixOf_iff_prefix, List.prefix_iff_eq_take, hz]
    exact eq_comm
  have ext : ∀ j, (a.extract j (j + b.size)).toList = (a.data.toList.drop j).take b.size := fun j => by
    rw [extract_list, List.drop_take]
    congr 1
    omega
  unfold Lib.contains HoldsP
  rw [decide_eq_true_eq]
  rcases Lib.index_spec a.data.toList b.data.toList with ⟨h1, h2⟩ | ⟨i, h1, h2, h3, _⟩
  · rw [h1]
    refine ⟨fun h => by omega, fun ⟨j, _, j2, j3⟩ => ?_⟩
    have := h2 j (by rw [hz]; omega)
    rw [ext, ByteArray.toList_eq] at j3
    rw [(occ j).2 j3] at this
    cases this
  · rw [h1]
    refine ⟨fun _ => ⟨i, Nat.zero_le _, ?_, ?_⟩, fun _ => by omega⟩
    · have h4 := congrArg List.length ((occ i).1 h3)
      rw [List.length_take, List.length_drop, hz, hz] at h4
      rw [hz] at h2
      omega
    · rw [ext, ByteArray.toList_eq]
      exact (occ i).1 h3
theorem l01Holds_is (a b : ByteArray) (ha : a.size ≤ 1048576) (hb : b.size ≤ 1048576) : Ev (fun k => spec_l01Holds.f k a b) (Lib.contains a.data.toList b.data.toList) :=
  l01Holds_loop a b ha hb (a.size + 1) 0 _ rfl (Nat.zero_le _) (contains_iff a b)
theorem ev_shift {α : Type} {g : Nat → Option α} {r : α} (n : Nat) (h : ∀ k, g (k + n) = some r) : Ev g r := ⟨n, fun k hk => by
  obtain ⟨m, rfl⟩ : ∃ m, k = m + n := ⟨k - n, by omega⟩
  exact h m⟩
theorem spec_reckon_is (op : ByteArray) (a b : Int) (s : ByteArray) (a' b' : Int) (s' : ByteArray) (h0 : -9223372036854775808 ≤ b) (h1 : b ≤ 9223372036854775807) (hs : s.size ≤ 1048576) (hs' : s'.size ≤ 1048576) : Ev (fun k => spec_Reckon.f k op a b s a' b' s') (reckT op.toList (a, b, s) (a', b', s')) := by
  unfold spec_Reckon.f reckT
  have logic : ∀ o, (op.toList == ([111, 114] : List UInt8)) = o → Ev (fun k => spec_l01Logic.f k op a b s a' b' s') (logicT o (a, b, s) (a', b', s')) := fun o ho => ev_shift 1 fun k => by rw [l01Logic_is, ho]
  by_cases e1 : op.toList = ([97, 110, 100] : List UInt8)
  · rw [if_pos e1]
    refine ev_if_pos e1 (Ev.step (fun k => rfl) (Ev.bind (logic false (by rw [e1]; rfl)) (ev_some fun _ => rfl)))
  rw [if_neg e1]
  refine ev_if_neg e1 (Ev.step (fun k => rfl) ?_)
  by_cases e2 : op.toList = ([111, 114] : List UInt8)
  · rw [if_pos e2]
    exact ev_if_pos (beq_iff_eq.mpr e2) (Ev.bind (logic true (beq_iff_eq.mpr e2)) (ev_some fun _ => rfl))
  rw [if_neg e2]
  refine ev_if_neg (by simpa using e2) ?_
  have arith : Ev (fun k => spec_l01Arith.f k op b b') (arithT op.toList b b') := ev_shift 1 fun k => l01Arith_is k op b b' h0 h1
  have tail : ∀ t : Bool, (t = (op.toList == ([126] : List UInt8) && a == 3)) → Ev (fun k => spec_Reckon.j2 k op t a b s a' b' s') (if (op.toList == ([126] : List UInt8) && a == 3) = true then flagT (Lib.contains s.data.toList s'.data.toList) else if a = 1 then arithT op.toList b b' else nullT) := by
    intro t ht
    rw [← ht]
    refine Ev.step (fun k => rfl) ?_
    by_cases hb : t = true
    · rw [if_pos hb]
      exact ev_if_pos hb (Ev.bind (l01Holds_is s s' hs hs') (ev_bind0 (l01Bool_is _) (ev_some fun _ => rfl)))
    · rw [if_neg hb]
      refine ev_if_neg hb ?_
      by_cases ha : a = 1
      · rw [if_pos ha]
        exact ev_if_pos ha (Ev.bind arith (ev_some fun _ => rfl))
      · rw [if_neg ha]
        exact ev_if_neg ha (ev_some fun _ => rfl)
  have mid : ∀ t : Bool, t = (a != a' || a == 0) → Ev (fun k => spec_Reckon.j1 k op t a b s a' b' s') (if (a != a' || a == 0) = true then nullT else if op.toList = [61] then flagT (cmpV a b s a' b' s' == 0) else if op.toList = [60] then flagT (decide (cmpV a b s a' b' s' < 0)) else if (op.toList == [126] && a == 3) = true then flagT (Lib.contains s.data.toList s'.data.toList) else if a = 1 then arithT op.toList b b' else nullT) := by
    intro t ht
    rw [← ht]
    refine Ev.step (fun k => rfl) ?_
    by_cases hb : t = true
    · rw [if_pos hb]
      exact ev_if_pos hb (ev_some fun _ => rfl)
    · rw [if_neg hb]
      refine ev_if_neg hb ?_
      by_cases e3 : op.toList = ([61] : List UInt8)
      · rw [if_pos e3]
        exact ev_if_pos e3 (ev_bind0 rfl (ev_bind0 (l01Bool_is _) (ev_some fun _ => rfl)))
      rw [if_neg e3]
      refine ev_if_neg e3 ?_
      by_cases e4 : op.toList = ([60] : List UInt8)
      · rw [if_pos e4]
        exact ev_if_pos e4 (ev_bind0 rfl (ev_bind0 (l01Bool_is _) (ev_some fun _ => rfl)))
      rw [if_neg e4]
      refine ev_if_neg e4 ?_
      by_cases e5 : op.toList = ([126] : List UInt8)
      · exact ev_if_pos e5 (tail _ (by rw [e5]; rfl))
      · exact ev_if_neg e5 (tail _ (by rw [show (op.toList == ([126] : List UInt8)) = false from beq_eq_false_iff_ne.mpr e5]; rfl))
  by_cases e : a = a'
  · exact ev_if_pos e (mid _ (by rw [show (a != a') = false by simpa using e]; rfl))
  · exact ev_if_neg e (mid _ (by rw [show (a != a') = true by simpa using e]; rfl))
theorem flag_is (b : Bool) : impl_flag.f b = some (flagT b) := by
  unfold impl_flag.f flagT
  split <;> rfl
theorem decide_is (k : Nat) (a b : Int) (s : ByteArray) (a' b' : Int) (s' : ByteArray) (o : Bool) : impl_decide.f (k + 2) a b s a' b' s' o = some (logicT o (a, b, s) (a', b', s')) := by
  have h1 : ∀ t, impl_decide.j1 (k + 1) o t = if t = true then some (flagT (!o)) else some nullT := fun t => by
    rw [impl_decide.j1, flag_is]
    rfl
  have h0 : ∀ t, impl_decide.j0 (k + 2) o t a b s a' b' s' = if t = true then some (flagT o) else if eqT (a, b, s) (flagT (!o)) = true then (if eqT (a', b', s') (flagT (!o)) = true then some (flagT (!o)) else some nullT) else some nullT := fun t => by
    rw [impl_decide.j0, flag_is, flag_is]
    simp only [Option.bind_some, h1]
    rfl
  unfold impl_decide.f
  rw [flag_is, Option.bind_some, Option.bind_some, h0, h0]
  show (if eqT (a, b, s) (flagT o) = true then _ else if eqT (a', b', s') (flagT o) = true then _ else _) = _
  unfold logicT
  cases eqT (a, b, s) (flagT o) <;> cases eqT (a', b', s') (flagT o) <;> cases eqT (a, b, s) (flagT (!o)) <;> cases eqT (a', b', s') (flagT (!o)) <;> rfl
theorem beq_bne (p q : Bool) (x y : Int × Int × ByteArray) : (if (p == q) = true then x else y) = if (p != q) = true then y else x := by
  cases p <;> cases q <;> rfl
theorem count_is (k : Nat) (op : ByteArray) (x y : Int) (hop : op.toList = [43] ∨ op.toList = [45] ∨ op.toList = [42] ∨ op.toList = [47]) : ∃ n ok, impl_count.f (k + 1) op x y = some (n, ok) ∧ (if ok = true then intT n else nullT) = arithT op.toList x y := by
  have hj : ∀ t, impl_count.j0 (k + 1) x y t = if t = true then some (0, false) else (if y = 0 then none else (if (Int.tmod x y) = 0 then (some (wrap64 (Int.tdiv x y), true)) else (if ((decide (x < 0)) != (decide (y < 0))) = true then (some (wrap64 ((wrap64 (Int.tdiv x y)) - 1), true)) else (some (wrap64 (Int.tdiv x y), true))))) := fun t => rfl
  unfold impl_count.f arithT
  by_cases e1 : op.toList = ([43] : List UInt8)
  · rw [if_pos e1, if_pos e1]
    exact ⟨_, _, rfl, beq_bne _ _ _ _⟩
  rw [if_neg e1, if_neg e1]
  by_cases e2 : op.toList = ([45] : List UInt8)
  · rw [if_pos e2, if_pos e2]
    exact ⟨_, _, rfl, beq_bne _ _ _ _⟩
  rw [if_neg e2, if_neg e2]
  by_cases e3 : op.toList = ([42] : List UInt8)
  · rw [if_pos e3, if_pos e3]
    by_cases hx : x = 0
    · rw [if_pos hx, if_pos hx]
      exact ⟨_, _, rfl, rfl⟩
    rw [if_neg hx, if_neg hx]
    by_cases hy : y = 0
    · rw [if_pos hy, if_pos hy]
      exact ⟨_, _, rfl, rfl⟩
    rw [if_neg hy, if_neg hy]
    unfold mulOk
    by_cases hq : wrap64 (Int.tdiv (wrap64 (x * y)) y) = x
    case neg =>
      rw [if_neg hq, show (wrap64 (Int.tdiv (wrap64 (x * y)) y) == x) = false from beq_eq_false_iff_ne.mpr hq, Bool.and_false]
      exact ⟨_, _, rfl, rfl⟩
    rw [if_pos hq, show (wrap64 (Int.tdiv (wrap64 (x * y)) y) == x) = true from beq_iff_eq.mpr hq, Bool.and_true]
    by_cases h1 : x = -1
    · rw [if_pos h1, show (x == -1) = true from beq_iff_eq.mpr h1, Bool.true_and]
      by_cases h2 : y = -9223372036854775808
      · rw [if_pos h2, show (y == -9223372036854775808) = true from beq_iff_eq.mpr h2]
        exact ⟨_, _, rfl, rfl⟩
      · rw [if_neg h2, show (y == -9223372036854775808) = false from beq_eq_false_iff_ne.mpr h2]
        by_cases h3 : y = -1
        · rw [if_pos h3, show (y == -1) = true from beq_iff_eq.mpr h3]
          exact ⟨_, _, rfl, rfl⟩
        · rw [if_neg h3, show (y == -1) = false from beq_eq_false_iff_ne.mpr h3]
          exact ⟨_, _, rfl, rfl⟩
    · rw [if_neg h1, show (x == -1) = false from beq_eq_false_iff_ne.mpr h1]
      by_cases h3 : y = -1
      · rw [if_pos h3, show (y == -1) = true from beq_iff_eq.mpr h3]
        exact ⟨_, _, rfl, rfl⟩
      · rw [if_neg h3, show (y == -1) = false from beq_eq_false_iff_ne.mpr h3]
        exact ⟨_, _, rfl, rfl⟩
  have e4 : op.toList = ([47] : List UInt8) := hop.resolve_left e1 |>.resolve_left e2 |>.resolve_left e3
  rw [if_neg e3, if_neg e3, if_pos e4]
  by_cases hy : y = 0
  · rw [if_pos hy, hj, if_pos rfl, if_pos hy]
    exact ⟨_, _, rfl, rfl⟩
  have hj' : ∀ t, impl_count.j0 (k + 1) x y t = if t = true then some (0, false) else (if (Int.tmod x y) = 0 then (some (wrap64 (Int.tdiv x y), true)) else (if ((decide (x < 0)) != (decide (y < 0))) = true then (some (wrap64 ((wrap64 (Int.tdiv x y)) - 1), true)) else (some (wrap64 (Int.tdiv x y), true)))) := fun t => by rw [hj, if_neg hy]
  rw [if_neg hy, if_neg hy]
  have tail : ∃ n ok, (if (Int.tmod x y) = 0 then (some (wrap64 (Int.tdiv x y), true)) else (if ((decide (x < 0)) != (decide (y < 0))) = true then (some (wrap64 ((wrap64 (Int.tdiv x y)) - 1), true)) else (some (wrap64 (Int.tdiv x y), true)))) = some (n, ok) ∧ (if ok = true then intT n else nullT) = if Int.tmod x y = 0 then intT (wrap64 (Int.tdiv x y)) else if (decide (x < 0) != decide (y < 0)) = true then intT (wrap64 (wrap64 (Int.tdiv x y) - 1)) else intT (wrap64 (Int.tdiv x y)) := by
    by_cases h1 : Int.tmod x y = 0
    · rw [if_pos h1, if_pos h1]
      exact ⟨_, _, rfl, rfl⟩
    · rw [if_neg h1, if_neg h1]
      by_cases h2 : (decide (x < 0) != decide (y < 0)) = true
      · rw [if_pos h2, if_pos h2]
        exact ⟨_, _, rfl, rfl⟩
      · rw [if_neg h2, if_neg h2]
        exact ⟨_, _, rfl, rfl⟩
  by_cases h1 : x = -9223372036854775808
  · rw [if_pos h1, hj', show (x == -9223372036854775808) = true from beq_iff_eq.mpr h1, Bool.true_and]
    by_cases h2 : (y == -1) = true
    · rw [if_pos h2, if_pos h2]
      exact ⟨_, _, rfl, rfl⟩
    · rw [if_neg h2, if_neg h2]
      exact tail
  · rw [if_neg h1, hj', show (x == -9223372036854775808) = false from beq_eq_false_iff_ne.mpr h1, Bool.false_and, if_neg (show ¬ (false = true) by simp), if_neg (show ¬ (false = true) by simp)]
    exact tail
theorem impl_reckon_is (op : ByteArray) (a b : Int) (s : ByteArray) (a' b' : Int) (s' : ByteArray) (hs : s.size ≤ 1048576) : Ev (fun k => impl_Reckon.f k op a b s a' b' s') (reckT op.toList (a, b, s) (a', b', s')) := by
  have cmp : Ev (fun k => impl_CompareValue.f k a b s a' b' s') (cmpV a b s a' b' s') := ev_shift 4 fun k => compareValue_is k a b s a' b' s'
  have null : Ev (fun _ : Nat => (impl_null.f).bind fun bt => some (bt.1, bt.2.1, bt.2.2)) nullT := ev_some fun _ => rfl
  have flg : ∀ t : Bool, Ev (fun _ : Nat => (impl_flag.f t).bind fun bt => some (bt.1, bt.2.1, bt.2.2)) (flagT t) := fun t => ev_bind0 (flag_is t) (ev_some fun _ => rfl)
  have other : (op.toList ≠ [43] ∧ op.toList ≠ [45] ∧ op.toList ≠ [42] ∧ op.toList ≠ [47]) → Ev (fun k => impl_Reckon.j0 k op op false a b s a' b' s') (reckT op.toList (a, b, s) (a', b', s')) := by
    rintro ⟨n1, n2, n3, n4⟩
    have comp : ∀ t : Bool, t = (a != a' || a == 0) → (op.toList = [61] ∨ op.toList = [60]) → Ev (fun k => impl_Reckon.j3 k op t a b s a' b' s') (reckT op.toList (a, b, s) (a', b', s')) := by
      intro t ht ho
      unfold reckT
      rw [if_neg (by rcases ho with h | h <;> rw [h] <;> decide), if_neg (by rcases ho with h | h <;> rw [h] <;> decide)]
      show Ev _ (if (a != a' || a == 0) = true then _ else _)
      rw [← ht]
      refine Ev.step (fun k => rfl) ?_
      by_cases hb : t = true
      · rw [if_pos hb]
        exact ev_if_pos hb null
      rw [if_neg hb]
      refine ev_if_neg hb (Ev.bind cmp ?_)
      by_cases e3 : op.toList = ([61] : List UInt8)
      · refine ev_conv (r := flagT (cmpV a b s a' b' s' == 0)) (ev_if_pos e3 ?_) (if_pos e3).symm
        by_cases hc : cmpV a b s a' b' s' = 0
        · refine ev_if_pos hc (ev_conv (flg true) ?_)
          rw [hc]
          rfl
        · refine ev_if_neg hc (ev_if_neg (show ¬ op.toList = ([60] : List UInt8) by rw [e3]; decide) (ev_conv (flg false) ?_))
          rw [show (cmpV a b s a' b' s' == 0) = false from beq_eq_false_iff_ne.mpr hc]
      · exact ev_conv (r := flagT (decide (cmpV a b s a' b' s' < 0))) (ev_if_neg e3 (ev_if_pos (ho.resolve_left e3) (flg _))) ((if_neg e3).trans (if_pos (ho.resolve_left e3))).symm
    have comp' : (op.toList = [61] ∨ op.toList = [60]) → Ev (fun k => impl_Reckon.j2 k op op true a b s a' b' s') (reckT op.toList (a, b, s) (a', b', s')) := by
      intro ho
      have hj : ∀ k, impl_Reckon.j2 (k + 1) op op true a b s a' b' s' = if a = a' then impl_Reckon.j3 k op (a == 0) a b s a' b' s' else impl_Reckon.j3 k op true a b s a' b' s' := fun _ => rfl
      refine Ev.step hj ?_
      by_cases e : a = a'
      · exact ev_if_pos e (comp _ (by rw [show (a != a') = false by simpa using e]; rfl) ho)
      · exact ev_if_neg e (comp _ (by rw [show (a != a') = true by simpa using e]; rfl) ho)
    have hj : ∀ k, impl_Reckon.j0 (k + 1) op op false a b s a' b' s' = if op.toList = ([61] : List UInt8) then impl_Reckon.j2 k op op (op.toList == ([61] : List UInt8)) a b s a' b' s' else impl_Reckon.j2 k op op (op.toList == ([60] : List UInt8)) a b s a' b' s' := fun _ => rfl
    refine Ev.step hj ?_
    by_cases e3 : op.toList = ([61] : List UInt8)
    · refine ev_if_pos e3 ?_
      rw [show (op.toList == ([61] : List UInt8)) = true from beq_iff_eq.mpr e3]
      exact comp' (.inl e3)
    refine ev_if_neg e3 ?_
    by_cases e4 : op.toList = ([60] : List UInt8)
    · rw [show (op.toList == ([60] : List UInt8)) = true from beq_iff_eq.mpr e4]
      exact comp' (.inr e4)
    rw [show (op.toList == ([60] : List UInt8)) = false from beq_eq_false_iff_ne.mpr e4]
    have hj2 : ∀ k, impl_Reckon.j2 (k + 1) op op false a b s a' b' s' = if op.toList = ([126] : List UInt8) then (if a = 3 then (impl_Reckon.j4 k (a' != 3) a b s a' b' s') else (impl_Reckon.j4 k true a b s a' b' s')) else (if op.toList = ([97, 110, 100] : List UInt8) then ((impl_decide.f k a b s a' b' s' false).bind fun bt => (some (bt.1, bt.2.1, bt.2.2))) else (if op.toList = ([111, 114] : List UInt8) then ((impl_decide.f k a b s a' b' s' true).bind fun bt => (some (bt.1, bt.2.1, bt.2.2))) else ((impl_null.f).bind fun bt => (some (bt.1, bt.2.1, bt.2.2))))) := fun _ => rfl
    have logic : ∀ o, Ev (fun k => (impl_decide.f k a b s a' b' s' o).bind fun bt => some (bt.1, bt.2.1, bt.2.2)) (logicT o (a, b, s) (a', b', s')) := fun o => ev_shift 2 fun k => by rw [decide_is]; rfl
    by_cases e5 : op.toList = ([126] : List UInt8)
    · have hr : reckT op.toList (a, b, s) (a', b', s') = if (a != a' || a == 0) = true then nullT else if (a == 3) = true then flagT (Lib.contains s.data.toList s'.data.toList) else if a = 1 then nullT else nullT := by
        unfold reckT
        rw [e5]
        rfl
      rw [hr]
      refine Ev.step hj2 (ev_if_pos e5 ?_)
      have h4 : ∀ t k, impl_Reckon.j4 (k + 1) t a b s a' b' s' = if t = true then ((impl_null.f).bind fun bt => (some (bt.1, bt.2.1, bt.2.2))) else ((strings_Contains.f s s').bind fun t => ((impl_flag.f t).bind fun bt => (some (bt.1, bt.2.1, bt.2.2)))) := fun _ _ => rfl
      by_cases ha : a = 3
      · by_cases ha' : a' = 3
        · rw [if_neg (show ¬ (a != a' || a == 0) = true by simp [ha, ha']), if_pos (show (a == 3) = true from beq_iff_eq.mpr ha)]
          refine ev_if_pos ha (Ev.step (h4 _) (ev_if_neg (by simp [ha']) (ev_bind0 (a := Lib.contains s.data.toList s'.data.toList) ?_ (flg _))))
          unfold strings_Contains.f
          rw [if_pos (by omega)]
        · rw [if_pos (show (a != a' || a == 0) = true by simp [ha]; omega)]
          exact ev_if_pos ha (Ev.step (h4 _) (ev_if_pos (by simpa using ha') null))
      · refine ev_if_neg ha (Ev.step (h4 _) (ev_conv (ev_if_pos rfl null) ?_))
        rw [if_neg (show ¬ (a == 3) = true by simpa using ha)]
        split
        · rfl
        · split <;> rfl
    by_cases e1 : op.toList = ([97, 110, 100] : List UInt8)
    · exact ev_conv (Ev.step hj2 (ev_if_neg e5 (ev_if_pos e1 (logic false)))) (by unfold reckT; rw [if_pos e1])
    by_cases e2 : op.toList = ([111, 114] : List UInt8)
    · exact ev_conv (Ev.step hj2 (ev_if_neg e5 (ev_if_neg e1 (ev_if_pos e2 (logic true))))) (by unfold reckT; rw [if_neg e1, if_pos e2])
    refine ev_conv (Ev.step hj2 (ev_if_neg e5 (ev_if_neg e1 (ev_if_neg e2 null)))) ?_
    unfold reckT
    rw [if_neg e1, if_neg e2, if_neg e3, if_neg e4, show (op.toList == ([126] : List UInt8)) = false from beq_eq_false_iff_ne.mpr e5, Bool.false_and, if_neg (show ¬ (false = true) by simp)]
    unfold arithT
    rw [if_neg n1, if_neg n2, if_neg n3, if_neg n4]
    split
    · rfl
    · split <;> rfl
  have arith : (op.toList = [43] ∨ op.toList = [45] ∨ op.toList = [42] ∨ op.toList = [47]) → Ev (fun k => impl_Reckon.j0 k op op true a b s a' b' s') (reckT op.toList (a, b, s) (a', b', s')) := by
    intro ho
    have hr : reckT op.toList (a, b, s) (a', b', s') = if (a != a' || a == 0) = true then nullT else if a = 1 then arithT op.toList b b' else nullT := by
      unfold reckT
      rcases ho with h | h | h | h <;> rw [h] <;> rfl
    rw [hr]
    have hj : ∀ k, impl_Reckon.j0 (k + 1) op op true a b s a' b' s' = if a = 1 then impl_Reckon.j1 k op (a' != 1) a b s a' b' s' else impl_Reckon.j1 k op true a b s a' b' s' := fun _ => rfl
    have h1 : ∀ t k, impl_Reckon.j1 (k + 1) op t a b s a' b' s' = if t = true then ((impl_null.f).bind fun bt => (some (bt.1, bt.2.1, bt.2.2))) else ((impl_count.f k op b b').bind fun bt => (if bt.2 = true then ((impl_number.f bt.1).bind fun bt => (some (bt.1, bt.2.1, bt.2.2))) else ((impl_null.f).bind fun bt => (some (bt.1, bt.2.1, bt.2.2))))) := fun _ _ => rfl
    refine Ev.step hj ?_
    by_cases ha : a = 1
    · refine ev_if_pos ha (Ev.step (h1 _) ?_)
      by_cases ha' : a' = 1
      · rw [if_neg (show ¬ (a != a' || a == 0) = true by simp [ha, ha']), if_pos ha]
        refine ev_if_neg (by simp [ha']) (ev_shift 1 fun k => ?_)
        obtain ⟨n, ok, hc, he⟩ := count_is k op b b' ho
        rw [hc, Option.bind_some, ← he]
        cases ok <;> rfl
      · rw [if_pos (show (a != a' || a == 0) = true by simp [ha]; omega)]
        exact ev_if_pos (by simpa using ha') null
    · refine ev_conv (ev_if_neg ha (Ev.step (h1 _) (ev_if_pos rfl null))) ?_
      rw [if_neg ha]
      split <;> rfl
  unfold impl_Reckon.f
  by_cases e1 : op.toList = ([43] : List UInt8)
  · refine ev_if_pos e1 ?_
    rw [show (op.toList == ([43] : List UInt8)) = true from beq_iff_eq.mpr e1]
    exact arith (.inl e1)
  refine ev_if_neg e1 ?_
  by_cases e2 : op.toList = ([45] : List UInt8)
  · refine ev_if_pos e2 ?_
    rw [show (op.toList == ([45] : List UInt8)) = true from beq_iff_eq.mpr e2]
    exact arith (.inr (.inl e2))
  refine ev_if_neg e2 ?_
  by_cases e3 : op.toList = ([42] : List UInt8)
  · refine ev_if_pos e3 ?_
    rw [show (op.toList == ([42] : List UInt8)) = true from beq_iff_eq.mpr e3]
    exact arith (.inr (.inr (.inl e3)))
  refine ev_if_neg e3 ?_
  by_cases e4 : op.toList = ([47] : List UInt8)
  · rw [show (op.toList == ([47] : List UInt8)) = true from beq_iff_eq.mpr e4]
    exact arith (.inr (.inr (.inr e4)))
  · rw [show (op.toList == ([47] : List UInt8)) = false from beq_eq_false_iff_ne.mpr e4]
    exact other ⟨e1, e2, e3, e4⟩
end Go.Proofs.Ytmkllhkhiefbnaa.PFnExactReckon
