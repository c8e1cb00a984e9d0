/- Plain lemmas on what the functions of the law FnReckon compute: numbers and lists alone. -/
import Derived.Test.YthgdmdabdlgliaaPFnReckonx0
import Derived.Test.YthgdmdabdlgliaaPFnReckonx1
import Derived.Test.YthgdmdabdlgliaaPFnReckonx2
import Derived.Test.YthgdmdabdlgliaaPFnReckonx3
import Derived.Test.YthgdmdabdlgliaaPFnReckonx4
import Derived.Test.YthgdmdabdlgliaaPFnReckonx5
import Derived.Test.YthgdmdabdlgliaaPFnReckonx6
import Derived.Test.YthgdmdabdlgliaaPFnReckonx7
import Derived.Test.YthgdmdabdlgliaaPFnReckonx8
import Derived.Test.YthgdmdabdlgliaaPFnReckonx9
import Derived.Test.YthgdmdabdlgliaaPFnReckonx10
import Derived.Test.YthgdmdabdlgliaaPFnReckonx11
import Derived.Test.YthgdmdabdlgliaaPFnReckonx12
import Derived.Test.YthgdmdabdlgliaaPFnReckonx13
import Derived.Test.YthgdmdabdlgliaaPFnReckonx14
import Derived.Test.YthgdmdabdlgliaaPFnReckonx15
import Derived.Test.YthgdmdabdlgliaaPFnReckonx16
import Derived.Test.YthgdmdabdlgliaaPFnReckonx17
import Derived.Test.YthgdmdabdlgliaaPFnReckonx18
import Derived.Test.YthgdmdabdlgliaaOpen
import Derived.Test.YthgdmdabdlgliaaZFnReckon
namespace Go.Proofs.Ythgdmdabdlgliaa.PFnReckon
open Go.RowKit Go.Proofs.YthgdmdabdlgliaaW.PrintWords Go.Proofs.YthgdmdabdlgliaaW.PrintLast Go.Proofs.YthgdmdabdlgliaaW.PrintMore Go.Proofs.YthgdmdabdlgliaaOpen Go.Proofs.Ythgdmdabdlgliaa.ZFnReckon
set_option linter.unusedVariables false
set_option linter.unusedSimpArgs false
theorem cmpBytes_is (l m : List UInt8) : Go.Lib.compareBytes l m = if Op.bytesLess l m = true then -1 else if (Op.bytesLess l m || l == m) = true then 0 else 1 := by
  induction l generalizing m with
  | nil => cases m <;> simp [Go.Lib.compareBytes, Op.bytesLess]
  | cons a l ih =>
    cases m with
    | nil => simp [Go.Lib.compareBytes, Op.bytesLess]
    | cons b m =>
      simp only [Go.Lib.compareBytes, Op.bytesLess]
      by_cases h : a < b
      · simp [h]
      · by_cases h' : b < a
        · have hne : ¬ a = b := by rintro rfl; exact absurd h' h
          simp [h, h', hne]
        · have e : a = b := by
            apply UInt8.toNat_inj.1
            have h1 : ¬ a.toNat < b.toNat := h
            have h2 : ¬ b.toNat < a.toNat := h'
            omega
          subst e
          simp only [h, if_false, ih]
          simp
def cmpI (a b : Int) : Int := if a < b then -1 else if b < a then 1 else 0
theorem compare_int_is (a b : Int) : cmp_Compare_int.f a b = some (cmpI a b) := by
  unfold cmp_Compare_int.f cmp_isNaN_int.f cmpI
  simp only [Option.bind_some, bne_self_eq_false, Bool.false_eq_true, if_false, gt_iff_lt]
  by_cases h : a < b
  · simp [h]
  · by_cases h' : b < a <;> simp [h, h']
theorem or_three (k : Nat) (a b c : Int) : cmp_Or_int.f (k + 4) [a, b, c] = some (if a = 0 then (if b = 0 then c else b) else a) := by
  have w0 : wrap64 (0 + 1) = 1 := by unfold wrap64; omega
  have w1 : wrap64 (1 + 1) = 2 := by unfold wrap64; omega
  have w2 : wrap64 (2 + 1) = 3 := by unfold wrap64; omega
  unfold cmp_Or_int.f
  simp only [cmp_Or_int.l0, List.length_cons, List.length_nil, w0, w1, w2, rd]
  by_cases ha : a = 0
  · by_cases hb : b = 0
    · by_cases hc : c = 0
      · simp [ha, hb, hc]
      · simp [ha, hb, hc]
    · simp [ha, hb]
  · simp [ha]
theorem compareValue_is (k : Nat) (a b : Int) (s : ByteArray) (a' b' : Int) (s' : ByteArray) : impl_CompareValue.f (k + 4) a b s a' b' s' = some (cmpV a b s a' b' s') := by
  unfold impl_CompareValue.f strings_Compare.f bytealg_CompareString.f
  simp only [compare_int_is, Option.bind_some, or_three, cmpBytes_is]
  unfold cmpV cmpI
  have hd : ∀ z : ByteArray, z.toList = z.data.toList := fun z => ByteArray.toList_eq z
  rw [hd, hd]
  by_cases h1 : a < a'
  · simp [h1]
  · by_cases h2 : a' < a
    · simp [h1, h2]
    · by_cases h3 : b < b'
      · simp [h1, h2, h3]
      · by_cases h4 : b' < b
        · simp [h1, h2, h3, h4]
        · simp [h1, h2, h3, h4]
/-- Is a value right. -/
def okV (a b : Int) (s : List UInt8) : Bool := if a = 0 then (b == 0 && s.isEmpty) else if a = 1 then s.isEmpty else if a = 2 then (decide (0 ≤ b ∧ b ≤ 1) && s.isEmpty) else if a = 3 then (b == 0 && decide (s.length ≤ 100)) else false
theorem specValueOk_is (a b : Int) (s : ByteArray) : spec_ValueOk.f a b s = some (okV a b s.data.toList) := by
  unfold spec_ValueOk.f okV spec_l01In.f
  have he : (s.toList == ([] : List UInt8)) = s.data.toList.isEmpty := by rw [toList_data]; cases s.data.toList <;> rfl
  rw [he, size_data]
  by_cases h0 : a = 0
  · by_cases hb : b = 0 <;> simp [h0, hb]
  · by_cases h1 : a = 1
    · simp [h1]
    · by_cases h2 : a = 2
      · by_cases hb : 0 ≤ b
        · by_cases hb' : b ≤ 1 <;> simp [h2, hb, hb']
        · simp [h2, hb]
      · by_cases h3 : a = 3
        · by_cases hb : b = 0
          · simp [h3, hb]
            omega
          · simp [h3, hb]
        · simp [h0, h1, h2, h3]
theorem implValueOk_is (a b : Int) (s : ByteArray) : impl_ValueOk.f a b s = some (okV a b s.data.toList) := specValueOk_is a b s
def nullT : Int × Int × ByteArray := (0, 0, ⟨#[]⟩)
def intT (n : Int) : Int × Int × ByteArray := (1, n, ⟨#[]⟩)
def flagT (b : Bool) : Int × Int × ByteArray := if b = true then (2, 1, ⟨#[]⟩) else (2, 0, ⟨#[]⟩)
def eqT (x y : Int × Int × ByteArray) : Bool := x.1 == y.1 && (x.2.1 == y.2.1 && (x.2.2.toList == y.2.2.toList))
/-- and, or: o is whether it is or. -/
def logicT (o : Bool) (x y : Int × Int × ByteArray) : Int × Int × ByteArray :=
  if (eqT x (flagT o) || eqT y (flagT o)) = true then flagT o else if (eqT x (flagT (!o)) && eqT y (flagT (!o))) = true then flagT (!o) else nullT
def mulOk (x y : Int) : Bool := !(x == -1 && y == -9223372036854775808) && !(y == -1 && x == -9223372036854775808) && (wrap64 (Int.tdiv (wrap64 (x * y)) y) == x)
/-- The arithmetic of two whole numbers. -/
def arithT (op : List UInt8) (x y : Int) : Int × Int × ByteArray :=
  if op = [43] then (if (decide (wrap64 (x + y) > x) != decide (y > 0)) = true then nullT else intT (wrap64 (x + y)))
  else if op = [45] then (if (decide (wrap64 (x - y) < x) != decide (y > 0)) = true then nullT else intT (wrap64 (x - y)))
  else if op = [42] then (if x = 0 then intT 0 else if y = 0 then intT 0 else if mulOk x y = true then intT (wrap64 (x * y)) else nullT)
  else if op = [47] then (if y = 0 then nullT else if (x == -9223372036854775808 && y == -1) = true then nullT else if Int.tmod x y = 0 then intT (wrap64 (Int.tdiv x y)) else if (decide (x < 0) != decide (y < 0)) = true then intT (wrap64 (wrap64 (Int.tdiv x y) - 1)) else intT (wrap64 (Int.tdiv x y)))
  else nullT
def reckT (op : List UInt8) (x y : Int × Int × ByteArray) : Int × Int × ByteArray :=
  if op = [97, 110, 100] then logicT false x y else if op = [111, 114] then logicT true x y
  else if (x.1 != y.1 || x.1 == 0) = true then nullT
  else if op = [61] then flagT (cmpV x.1 x.2.1 x.2.2 y.1 y.2.1 y.2.2 == 0)
  else if op = [60] then flagT (decide (cmpV x.1 x.2.1 x.2.2 y.1 y.2.1 y.2.2 < 0))
  else if (op == [126] && x.1 == 3) = true then flagT (Lib.contains x.2.2.data.toList y.2.2.data.toList)
  else if x.1 = 1 then arithT op x.2.1 y.2.1 else nullT
theorem l01Bool_is (b : Bool) : spec_l01Bool.f b = some (flagT b) := by
  unfold spec_l01Bool.f flagT
  split <;> rfl
theorem l01Logic_is (k : Nat) (op : ByteArray) (a b : Int) (s : ByteArray) (a' b' : Int) (s' : ByteArray) : spec_l01Logic.f (k + 1) op a b s a' b' s' = some (logicT (op.toList == [111, 114]) (a, b, s) (a', b', s')) := by
  unfold spec_l01Logic.f
  rw [l01Bool_is, Option.bind_some, l01Bool_is, Option.bind_some, show (op.toList != ([111, 114] : List UInt8)) = !(op.toList == ([111, 114] : List UInt8)) from rfl]
  generalize (op.toList == ([111, 114] : List UInt8)) = o
  show (if eqT (a, b, s) (flagT o) = true then _ else spec_l01Logic.j0 (k + 1) (eqT (a', b', s') (flagT o)) _ _ _ _ _ _ _ _ _ _ _ _) = _
  have h : ∀ t, spec_l01Logic.j0 (k + 1) t a b s a' b' s' (flagT o).1 (flagT o).2.1 (flagT o).2.2 (flagT (!o)).1 (flagT (!o)).2.1 (flagT (!o)).2.2 = if t = true then some (flagT o) else if eqT (a, b, s) (flagT (!o)) = true then (if eqT (a', b', s') (flagT (!o)) = true then some (flagT (!o)) else some nullT) else some nullT := fun t => rfl
  rw [h, h]
  unfold logicT
  cases eqT (a, b, s) (flagT o) <;> cases eqT (a', b', s') (flagT o) <;> cases eqT (a, b, s) (flagT (!o)) <;> cases eqT (a', b', s') (flagT (!o)) <;> rfl
theorem l01Sum_is (x y : Int) : spec_l01Sum.f x y = some (if (decide (wrap64 (x + y) > x) != decide (y > 0)) = true then nullT else intT (wrap64 (x + y))) := by
  unfold spec_l01Sum.f spec_l01Int.f
  split <;> rfl
theorem l01Product_is (k : Nat) (x y : Int) : spec_l01Product.f (k + 1) x y = some (if x = 0 then intT 0 else if y = 0 then intT 0 else if mulOk x y = true then intT (wrap64 (x * y)) else nullT) := by
  unfold spec_l01Product.f
  by_cases hx : x = 0
  · rw [if_pos hx, if_pos hx]
    rfl
  rw [if_neg hx, if_neg hx]
  by_cases hy : y = 0
  · subst hy
    rfl
  rw [if_neg hy, show (y == 0) = false from beq_eq_false_iff_ne.mpr hy]
  unfold mulOk
  simp only [spec_l01Product.j0, spec_l01Int.f, Option.bind_some, if_neg hy]
  by_cases h1 : x = -1
  · by_cases h2 : y = -9223372036854775808
    · simp [h1, h2, nullT]
    · by_cases h3 : y = -1
      · simp [h1, h3, intT, nullT] <;> (split <;> rfl)
      · simp [h1, h2, h3, intT, nullT] <;> (split <;> rfl)
  · by_cases h3 : y = -1
    · by_cases h4 : x = -9223372036854775808
      · simp [h3, h4, nullT]
      · simp [h1, h3, h4, intT, nullT] <;> (split <;> rfl)
    · simp [h1, h3, intT, nullT] <;> (split <;> rfl)
theorem l01Quotient_is (k : Nat) (x y : Int) : spec_l01Quotient.f (k + 1) x y = some (if y = 0 then nullT else if (x == -9223372036854775808 && y == -1) = true then nullT else if Int.tmod x y = 0 then intT (wrap64 (Int.tdiv x y)) else if (decide (x < 0) != decide (y < 0)) = true then intT (wrap64 (wrap64 (Int.tdiv x y) - 1)) else intT (wrap64 (Int.tdiv x y))) := by
  have h : ∀ t, spec_l01Quotient.j0 (k + 1) x y t = if t = true then some nullT else if y = 0 then none else if Int.tmod x y = 0 then some (intT (wrap64 (Int.tdiv x y))) else if (decide (x < 0) != decide (y < 0)) = true then some (intT (wrap64 (wrap64 (Int.tdiv x y) - 1))) else some (intT (wrap64 (Int.tdiv x y))) := fun t => rfl
  unfold spec_l01Quotient.f
  rw [h, h, h]
  by_cases hy : y = 0
  · simp [hy]
  rw [if_neg hy, if_neg hy, if_neg hy]
  by_cases h1 : y = -1
  · rw [if_pos h1]
    by_cases h2 : x = -9223372036854775808
    · simp [h1, h2]
    · simp only [beq_eq_false_iff_ne.mpr h2, Bool.false_and]
      repeat' split
      all_goals first | rfl | simp_all
  · rw [if_neg h1]
    simp only [beq_eq_false_iff_ne.mpr h1, Bool.and_false]
    repeat' split
    all_goals first | rfl | simp_all
theorem l01Arith_is (k : Nat) (op : ByteArray) (x y : Int) (h0 : -9223372036854775808 ≤ x) (h1 : x ≤ 9223372036854775807) : spec_l01Arith.f (k + 1) op x y = some (arithT op.toList x y) := by
  unfold spec_l01Arith.f arithT
  rw [l01Sum_is, l01Product_is, l01Quotient_is]
  simp only [spec_l01Int.f, Option.bind_some]
  by_cases e1 : op.toList = ([43] : List UInt8)
  · rw [if_pos e1, if_pos e1]
    by_cases hy : y = 0
    · subst hy
      rw [if_pos rfl, show wrap64 (x + 0) = x by rw [Int.add_zero]; exact wrap_id h0 h1, if_neg (by simp)]
      rfl
    · rw [if_neg hy]
  rw [if_neg e1, if_neg e1]
  by_cases e2 : op.toList = ([45] : List UInt8)
  · rw [if_pos e2, if_pos e2]
    by_cases hy : y = 0
    · subst hy
      rw [show wrap64 (x - 0) = x by rw [Int.sub_zero]; exact wrap_id h0 h1, if_neg (by simp), if_neg (by simp)]
      rfl
    · rw [if_neg hy]
      split <;> rfl
  rw [if_neg e2, if_neg e2]
  by_cases e3 : op.toList = ([42] : List UInt8)
  · rw [if_pos e3, if_pos e3]
  rw [if_neg e3, if_neg e3]
  by_cases e4 : op.toList = ([47] : List UInt8)
  · rw [if_pos e4, if_pos e4]
  rw [if_neg e4, if_neg e4]
  rfl
def HoldsP (a b : ByteArray) (i : Nat) : Prop := ∃ j, i ≤ j ∧ j + b.size ≤ a.size ∧ (a.extract j (j + b.size)).toList = b.toList
theorem l01Holds_loop (a b : ByteArray) (ha : a.size ≤ 1048576) (hb : b.size ≤ 1048576) : ∀ (n i : Nat) (r : Bool), a.size + 1 - i = n → i ≤ a.size + 1 → (r = true ↔ HoldsP a b i) → Ev (fun k => spec_l01Holds.l0 k a b i) r := by
  intro n
  induction n with
  | zero =>
    intro i r h1 h2 hr
    have hw : wrap64 ((i : Int) + (b.size : Int)) = ((i + b.size : Nat) : Int) := by rw [wrap_id (by omega) (by omega)]; omega
    refine Ev.step (fun k => rfl) (ev_if_neg (by rw [hw]; omega) (ev_some fun _ => ?_))
    cases r with
    | false => rfl
    | true =>
      obtain ⟨j, j1, j2, _⟩ := hr.1 rfl
      omega
  | succ n ih =>
    intro i r h1 h2 hr
    have hw : wrap64 ((i : Int) + (b.size : Int)) = ((i + b.size : Nat) : Int) := by rw [wrap_id (by omega) (by omega)]; omega
    have hs : wrap64 ((i : Int) + 1) = ((i + 1 : Nat) : Int) := by rw [wrap_id (by omega) (by omega)]; omega
    by_cases hl : i + b.size ≤ a.size
    · refine Ev.step (fun k => rfl) (ev_if_pos (by rw [hw]; omega) (ev_if_pos (by omega) (ev_if_pos (by rw [hw]; omega) ?_)))
      rw [hw, hs]
      by_cases he : (a.extract i (i + b.size)).toList = b.toList
      · exact ev_if_pos he (ev_conv (ev_some fun _ => rfl) (hr.2 ⟨i, Nat.le_refl _, hl, he⟩).symm)
      · refine ev_if_neg he (ih (i + 1) r (by omega) (by omega) (hr.trans ⟨fun ⟨j, j1, j2, j3⟩ => ⟨j, ?_, j2, j3⟩, fun ⟨j, j1, j2, j3⟩ => ⟨j, by omega, j2, j3⟩⟩))
        by_cases e : j = i
        · exact absurd (e ▸ j3) he
        · omega
    · refine Ev.step (fun k => rfl) (ev_if_neg (by rw [hw]; omega) (ev_some fun _ => ?_))
      cases r with
      | false => rfl
      | true =>
        obtain ⟨j, j1, j2, _⟩ := hr.1 rfl
        omega
theorem extract_list (a : ByteArray) (i j : Nat) : (a.extract i j).toList = (a.data.toList.take j).drop i := by
  rw [ByteArray.toList_eq]
  simp [ByteArray.extract, ByteArray.copySlice, List.drop_take]
theorem contains_iff (a b : ByteArray) : Lib.contains a.data.toList b.data.toList = true ↔ HoldsP a b 0 := by
  have hz : ∀ c : ByteArray, c.data.toList.length = c.size := fun c => by simp
  have occ : ∀ j, Lib.occAt a.data.toList b.data.toList j = true ↔ (a.data.toList.drop j).take b.size = b.data.toList := fun j => by
    unfold Lib.occAt
    rw [List.isPrefixOf_iff_prefix, List.prefix_iff_eq_take, hz]
    exact eq_comm
  have ext : ∀ j, (a.extract j (j + b.size)).toList = (a.data.toList.drop j).take b.size := fun j => by
    rw [extract_list, List.drop_take]
    congr 1
    omega
  unfold Lib.contains HoldsP
  rw [decide_eq_true_eq]
  rcases Lib.index_spec a.data.toList b.data.toList with ⟨h1, h2⟩ | ⟨i, h1, h2, h3, _⟩
  · rw [h1]
    refine ⟨fun h => by omega, fun ⟨j, _, j2, j3⟩ => ?_⟩
    have := h2 j (by rw [hz]; omega)
    rw [ext, ByteArray.toList_eq] at j3
    rw [(occ j).2 j3] at this
    cases this
  · rw [h1]
    refine ⟨fun _ => ⟨i, Nat.zero_le _, ?_, ?_⟩, fun _ => by omega⟩
    · have h4 := congrArg List.length ((occ i).1 h3)
      rw [List.length_take, List.length_drop, hz, hz] at h4
      rw [hz] at h2
      omega
    · rw [ext, ByteArray.toList_eq]
      exact (occ i).1 h3
theorem l01Holds_is (a b : ByteArray) (ha : a.size ≤ 1048576) (hb : b.size ≤ 1048576) : Ev (fun k => spec_l01Holds.f k a b) (Lib.contains a.data.toList b.data.toList) :=
  l01Holds_loop a b ha hb (a.size + 1) 0 _ rfl (Nat.zero_le _) (contains_iff a b)
theorem ev_shift {α : Type} {g : Nat → Option α} {r : α} (n : Nat) (h : ∀ k, g (k + n) = some r) : Ev g r := ⟨n, fun k hk => by
  obtain ⟨m, rfl⟩ : ∃ m, k = m + n := ⟨k - n, by omega⟩
  exact h m⟩
theorem spec_reckon_is (op : ByteArray) (a b : Int) (s : ByteArray) (a' b' : Int) (s' : ByteArray) (h0 : -9223372036854775808 ≤ b) (h1 : b ≤ 9223372036854775807) (hs : s.size ≤ 1048576) (hs' : s'.size ≤ 1048576) : Ev (fun k => spec_Reckon.f k op a b s a' b' s') (reckT op.toList (a, b, s) (a', b', s')) := by
  unfold spec_Reckon.f reckT
  have logic : ∀ o, (op.toList == ([111, 114] : List UInt8)) = o → Ev (fun k => spec_l01Logic.f k op a b s a' b' s') (logicT o (a, b, s) (a', b', s')) := fun o ho => ev_shift 1 fun k => by rw [l01Logic_is, ho]
  by_cases e1 : op.toList = ([97, 110, 100] : List UInt8)
  · rw [if_pos e1]
    refine ev_if_pos e1 (Ev.step (fun k => rfl) (Ev.bind (logic false (by rw [e1]; rfl)) (ev_some fun _ => rfl)))
  rw [if_neg e1]
  refine ev_if_neg e1 (Ev.step (fun k => rfl) ?_)
  by_cases e2 : op.toList = ([111, 114] : List UInt8)
  · rw [if_pos e2]
    exact ev_if_pos (beq_iff_eq.mpr e2) (Ev.bind (logic true (beq_iff_eq.mpr e2)) (ev_some fun _ => rfl))
  rw [if_neg e2]
  refine ev_if_neg (by simpa using e2) ?_
  have arith : Ev (fun k => spec_l01Arith.f k op b b') (arithT op.toList b b') := ev_shift 1 fun k => l01Arith_is k op b b' h0 h1
  have tail : ∀ t : Bool, (t = (op.toList == ([126] : List UInt8) && a == 3)) → Ev (fun k => spec_Reckon.j2 k op t a b s a' b' s') (if (op.toList == ([126] : List UInt8) && a == 3) = true then flagT (Lib.contains s.data.toList s'.data.toList) else if a = 1 then arithT op.toList b b' else nullT) := by
    intro t ht
    rw [← ht]
    refine Ev.step (fun k => rfl) ?_
    by_cases hb : t = true
    · rw [if_pos hb]
      exact ev_if_pos hb (Ev.bind (l01Holds_is s s' hs hs') (ev_bind0 (l01Bool_is _) (ev_some fun _ => rfl)))
    · rw [if_neg hb]
      refine ev_if_neg hb ?_
      by_cases ha : a = 1
      · rw [if_pos ha]
        exact ev_if_pos ha (Ev.bind arith (ev_some fun _ => rfl))
      · rw [if_neg ha]
        exact ev_if_neg ha (ev_some fun _ => rfl)
  have mid : ∀ t : Bool, t = (a != a' || a == 0) → Ev (fun k => spec_Reckon.j1 k op t a b s a' b' s') (if (a != a' || a == 0) = true then nullT else if op.toList = [61] then flagT (cmpV a b s a' b' s' == 0) else if op.toList = [60] then flagT (decide (cmpV a b s a' b' s' < 0)) else if (op.toList == [126] && a == 3) = true then flagT (Lib.contains s.data.toList s'.data.toList) else if a = 1 then arithT op.toList b b' else nullT) := by
    intro t ht
    rw [← ht]
    refine Ev.step (fun k => rfl) ?_
    by_cases hb : t = true
    · rw [if_pos hb]
      exact ev_if_pos hb (ev_some fun _ => rfl)
    · rw [if_neg hb]
      refine ev_if_neg hb ?_
      by_cases e3 : op.toList = ([61] : List UInt8)
      · rw [if_pos e3]
        exact ev_if_pos e3 (ev_bind0 rfl (ev_bind0 (l01Bool_is _) (ev_some fun _ => rfl)))
      rw [if_neg e3]
      refine ev_if_neg e3 ?_
      by_cases e4 : op.toList = ([60] : List UInt8)
      · rw [if_pos e4]
        exact ev_if_pos e4 (ev_bind0 rfl (ev_bind0 (l01Bool_is _) (ev_some fun _ => rfl)))
      rw [if_neg e4]
      refine ev_if_neg e4 ?_
      by_cases e5 : op.toList = ([126] : List UInt8)
      · exact ev_if_pos e5 (tail _ (by rw [e5]; rfl))
      · exact ev_if_neg e5 (tail _ (by rw [show (op.toList == ([126] : List UInt8)) = false from beq_eq_false_iff_ne.mpr e5]; rfl))
  by_cases e : a = a'
  · exact ev_if_pos e (mid _ (by rw [show (a != a') = false by simpa using e]; rfl))
  · exact ev_if_neg e (mid _ (by rw [show (a != a') = true by simpa using e]; rfl))
theorem flag_is (b : Bool) : impl_flag.f b = some (flagT b) := by
  unfold impl_flag.f flagT
  split <;> rfl
theorem decide_is (k : Nat) (a b : Int) (s : ByteArray) (a' b' : Int) (s' : ByteArray) (o : Bool) : impl_decide.f (k + 2) a b s a' b' s' o = some (logicT o (a, b, s) (a', b', s')) := by
  have h1 : ∀ t, impl_decide.j1 (k + 1) o t = if t = true then some (flagT (!o)) else some nullT := fun t => by
    rw [impl_decide.j1, flag_is]
    rfl
  have h0 : ∀ t, impl_decide.j0 (k + 2) o t a b s a' b' s' = if t = true then some (flagT o) else if eqT (a, b, s) (flagT (!o)) = true then (if eqT (a', b', s') (flagT (!o)) = true then some (flagT (!o)) else some nullT) else some nullT := fun t => by
    rw [impl_decide.j0, flag_is, flag_is]
    simp only [Option.bind_some, h1]
    rfl
  unfold impl_decide.f
  rw [flag_is, Option.bind_some, Option.bind_some, h0, h0]
  show (if eqT (a, b, s) (flagT o) = true then _ else if eqT (a', b', s') (flagT o) = true then _ else _) = _
  unfold logicT
  cases eqT (a, b, s) (flagT o) <;> cases eqT (a', b', s') (flagT o) <;> cases eqT (a, b, s) (flagT (!o)) <;> cases eqT (a', b', s') (flagT (!o)) <;> rfl
theorem beq_bne (p q : Bool) (x y : Int × Int × ByteArray) : (if (p == q) = true then x else y) = if (p != q) = true then y else x := by
  cases p <;> cases q <;> rfl
theorem count_is (k : Nat) (op : ByteArray) (x y : Int) (hop : op.toList = [43] ∨ op.toList = [45] ∨ op.toList = [42] ∨ op.toList = [47]) : ∃ n ok, impl_count.f (k + 1) op x y = some (n, ok) ∧ (if ok = true then intT n else nullT) = arithT op.toList x y := by
  have hj : ∀ t, impl_count.j0 (k + 1) x y t = if t = true then some (0, false) else (if y = 0 then none else (if (Int.tmod x y) = 0 then (some (wrap64 (Int.tdiv x y), true)) else (if ((decide (x < 0)) != (decide (y < 0))) = true then (some (wrap64 ((wrap64 (Int.tdiv x y)) - 1), true)) else (some (wrap64 (Int.tdiv x y), true))))) := fun t => rfl
  unfold impl_count.f arithT
  by_cases e1 : op.toList = ([43] : List UInt8)
  · rw [if_pos e1, if_pos e1]
    exact ⟨_, _, rfl, beq_bne _ _ _ _⟩
  rw [if_neg e1, if_neg e1]
  by_cases e2 : op.toList = ([45] : List UInt8)
  · rw [if_pos e2, if_pos e2]
    exact ⟨_, _, rfl, beq_bne _ _ _ _⟩
  rw [if_neg e2, if_neg e2]
  by_cases e3 : op.toList = ([42] : List UInt8)
  · rw [if_pos e3, if_pos e3]
    by_cases hx : x = 0
    · rw [if_pos hx, if_pos hx]
      exact ⟨_, _, rfl, rfl⟩
    rw [if_neg hx, if_neg hx]
    by_cases hy : y = 0
    · rw [if_pos hy, if_pos hy]
      exact ⟨_, _, rfl, rfl⟩
    rw [if_neg hy, if_neg hy]
    unfold mulOk
    by_cases hq : wrap64 (Int.tdiv (wrap64 (x * y)) y) = x
    case neg =>
      rw [if_neg hq, show (wrap64 (Int.tdiv (wrap64 (x * y)) y) == x) = false from beq_eq_false_iff_ne.mpr hq, Bool.and_false]
      exact ⟨_, _, rfl, rfl⟩
    rw [if_pos hq, show (wrap64 (Int.tdiv (wrap64 (x * y)) y) == x) = true from beq_iff_eq.mpr hq, Bool.and_true]
    by_cases h1 : x = -1
    · rw [if_pos h1, show (x == -1) = true from beq_iff_eq.mpr h1, Bool.true_and]
      by_cases h2 : y = -9223372036854775808
      · rw [if_pos h2, show (y == -9223372036854775808) = true from beq_iff_eq.mpr h2]
        exact ⟨_, _, rfl, rfl⟩
      · rw [if_neg h2, show (y == -9223372036854775808) = false from beq_eq_false_iff_ne.mpr h2]
        by_cases h3 : y = -1
        · rw [if_pos h3, show (y == -1) = true from beq_iff_eq.mpr h3]
          exact ⟨_, _, rfl, rfl⟩
        · rw [if_neg h3, show (y == -1) = false from beq_eq_false_iff_ne.mpr h3]
          exact ⟨_, _, rfl, rfl⟩
    · rw [if_neg h1, show (x == -1) = false from beq_eq_false_iff_ne.mpr h1]
      by_cases h3 : y = -1
      · rw [if_pos h3, show (y == -1) = true from beq_iff_eq.mpr h3]
        exact ⟨_, _, rfl, rfl⟩
      · rw [if_neg h3, show (y == -1) = false from beq_eq_false_iff_ne.mpr h3]
        exact ⟨_, _, rfl, rfl⟩
  have e4 : op.toList = ([47] : List UInt8) := hop.resolve_left e1 |>.resolve_left e2 |>.resolve_left e3
  rw [if_neg e3, if_neg e3, if_pos e4]
  by_cases hy : y = 0
  · rw [if_pos hy, hj, if_pos rfl, if_pos hy]
    exact ⟨_, _, rfl, rfl⟩
  have hj' : ∀ t, impl_count.j0 (k + 1) x y t = if t = true then some (0, false) else (if (Int.tmod x y) = 0 then (some (wrap64 (Int.tdiv x y), true)) else (if ((decide (x < 0)) != (decide (y < 0))) = true then (some (wrap64 ((wrap64 (Int.tdiv x y)) - 1), true)) else (some (wrap64 (Int.tdiv x y), true)))) := fun t => by rw [hj, if_neg hy]
  rw [if_neg hy, if_neg hy]
  have tail : ∃ n ok, (if (Int.tmod x y) = 0 then (some (wrap64 (Int.tdiv x y), true)) else (if ((decide (x < 0)) != (decide (y < 0))) = true then (some (wrap64 ((wrap64 (Int.tdiv x y)) - 1), true)) else (some (wrap64 (Int.tdiv x y), true)))) = some (n, ok) ∧ (if ok = true then intT n else nullT) = if Int.tmod x y = 0 then intT (wrap64 (Int.tdiv x y)) else if (decide (x < 0) != decide (y < 0)) = true then intT (wrap64 (wrap64 (Int.tdiv x y) - 1)) else intT (wrap64 (Int.tdiv x y)) := by
    by_cases h1 : Int.tmod x y = 0
    · rw [if_pos h1, if_pos h1]
      exact ⟨_, _, rfl, rfl⟩
    · rw [if_neg h1, if_neg h1]
      by_cases h2 : (decide (x < 0) != decide (y < 0)) = true
      · rw [if_pos h2, if_pos h2]
        exact ⟨_, _, rfl, rfl⟩
      · rw [if_neg h2, if_neg h2]
        exact ⟨_, _, rfl, rfl⟩
  by_cases h1 : x = -9223372036854775808
  · rw [if_pos h1, hj', show (x == -9223372036854775808) = true from beq_iff_eq.mpr h1, Bool.true_and]
    by_cases h2 : (y == -1) = true
    · rw [if_pos h2, if_pos h2]
      exact ⟨_, _, rfl, rfl⟩
    · rw [if_neg h2, if_neg h2]
      exact tail
  · rw [if_neg h1, hj', show (x == -9223372036854775808) = false from beq_eq_false_iff_ne.mpr h1, Bool.false_and, if_neg (show ¬ (false = true) by simp), if_neg (show ¬ (false = true) by simp)]
    exact tail
theorem impl_reckon_is (op : ByteArray) (a b : Int) (s : ByteArray) (a' b' : Int) (s' : ByteArray) (hs : s.size ≤ 1048576) : Ev (fun k => impl_Reckon.f k op a b s a' b' s') (reckT op.toList (a, b, s) (a', b', s')) := by
  have cmp : Ev (fun k => impl_CompareValue.f k a b s a' b' s') (cmpV a b s a' b' s') := ev_shift 4 fun k => compareValue_is k a b s a' b' s'
  have null : Ev (fun _ : Nat => (impl_null.f).bind fun bt => some (bt.1, bt.2.1, bt.2.2)) nullT := ev_some fun _ => rfl
  have flg : ∀ t : Bool, Ev (fun _ : Nat => (impl_flag.f t).bind fun bt => some (bt.1, bt.2.1, bt.2.2)) (flagT t) := fun t => ev_bind0 (flag_is t) (ev_some fun _ => rfl)
  have other : (op.toList ≠ [43] ∧ op.toList ≠ [45] ∧ op.toList ≠ [42] ∧ op.toList ≠ [47]) → Ev (fun k => impl_Reckon.j0 k op op false a b s a' b' s') (reckT op.toList (a, b, s) (a', b', s')) := by
    rintro ⟨n1, n2, n3, n4⟩
    have comp : ∀ t : Bool, t = (a != a' || a == 0) → (op.toList = [61] ∨ op.toList = [60]) → Ev (fun k => impl_Reckon.j3 k op t a b s a' b' s') (reckT op.toList (a, b, s) (a', b', s')) := by
      intro t ht ho
      unfold reckT
      rw [if_neg (by rcases ho with h | h <;> rw [h] <;> decide), if_neg (by rcases ho with h | h <;> rw [h] <;> decide)]
      show Ev _ (if (a != a' || a == 0) = true then _ else _)
      rw [← ht]
      refine Ev.step (fun k => rfl) ?_
      by_cases hb : t = true
      · rw [if_pos hb]
        exact ev_if_pos hb null
      rw [if_neg hb]
      refine ev_if_neg hb (Ev.bind cmp ?_)
      by_cases e3 : op.toList = ([61] : List UInt8)
      · refine ev_conv (r := flagT (cmpV a b s a' b' s' == 0)) (ev_if_pos e3 ?_) (if_pos e3).symm
        by_cases hc : cmpV a b s a' b' s' = 0
        · refine ev_if_pos hc (ev_conv (flg true) ?_)
          rw [hc]
          rfl
        · refine ev_if_neg hc (ev_if_neg (show ¬ op.toList = ([60] : List UInt8) by rw [e3]; decide) (ev_conv (flg false) ?_))
          rw [show (cmpV a b s a' b' s' == 0) = false from beq_eq_false_iff_ne.mpr hc]
      · exact ev_conv (r := flagT (decide (cmpV a b s a' b' s' < 0))) (ev_if_neg e3 (ev_if_pos (ho.resolve_left e3) (flg _))) ((if_neg e3).trans (if_pos (ho.resolve_left e3))).symm
    have comp' : (op.toList = [61] ∨ op.toList = [60]) → Ev (fun k => impl_Reckon.j2 k op op true a b s a' b' s') (reckT op.toList (a, b, s) (a', b', s')) := by
      intro ho
      have hj : ∀ k, impl_Reckon.j2 (k + 1) op op true a b s a' b' s' = if a = a' then impl_Reckon.j3 k op (a == 0) a b s a' b' s' else impl_Reckon.j3 k op true a b s a' b' s' := fun _ => rfl
      refine Ev.step hj ?_
      by_cases e : a = a'
      · exact ev_if_pos e (comp _ (by rw [show (a != a') = false by simpa using e]; rfl) ho)
      · exact ev_if_neg e (comp _ (by rw [show (a != a') = true by simpa using e]; rfl) ho)
    have hj : ∀ k, impl_Reckon.j0 (k + 1) op op false a b s a' b' s' = if op.toList = ([61] : List UInt8) then impl_Reckon.j2 k op op (op.toList == ([61] : List UInt8)) a b s a' b' s' else impl_Reckon.j2 k op op (op.toList == ([60] : List UInt8)) a b s a' b' s' := fun _ => rfl
    refine Ev.step hj ?_
    by_cases e3 : op.toList = ([61] : List UInt8)
    · refine ev_if_pos e3 ?_
      rw [show (op.toList == ([61] : List UInt8)) = true from beq_iff_eq.mpr e3]
      exact comp' (.inl e3)
    refine ev_if_neg e3 ?_
    by_cases e4 : op.toList = ([60] : List UInt8)
    · rw [show (op.toList == ([60] : List UInt8)) = true from beq_iff_eq.mpr e4]
      exact comp' (.inr e4)
    rw [show (op.toList == ([60] : List UInt8)) = false from beq_eq_false_iff_ne.mpr e4]
    have hj2 : ∀ k, impl_Reckon.j2 (k + 1) op op false a b s a' b' s' = if op.toList = ([126] : List UInt8) then (if a = 3 then (impl_Reckon.j4 k (a' != 3) a b s a' b' s') else (impl_Reckon.j4 k true a b s a' b' s')) else (if op.toList = ([97, 110, 100] : List UInt8) then ((impl_decide.f k a b s a' b' s' false).bind fun bt => (some (bt.1, bt.2.1, bt.2.2))) else (if op.toList = ([111, 114] : List UInt8) then ((impl_decide.f k a b s a' b' s' true).bind fun bt => (some (bt.1, bt.2.1, bt.2.2))) else ((impl_null.f).bind fun bt => (some (bt.1, bt.2.1, bt.2.2))))) := fun _ => rfl
    have logic : ∀ o, Ev (fun k => (impl_decide.f k a b s a' b' s' o).bind fun bt => some (bt.1, bt.2.1, bt.2.2)) (logicT o (a, b, s) (a', b', s')) := fun o => ev_shift 2 fun k => by rw [decide_is]; rfl
    by_cases e5 : op.toList = ([126] : List UInt8)
    · have hr : reckT op.toList (a, b, s) (a', b', s') = if (a != a' || a == 0) = true then nullT else if (a == 3) = true then flagT (Lib.contains s.data.toList s'.data.toList) else if a = 1 then nullT else nullT := by
        unfold reckT
        rw [e5]
        rfl
      rw [hr]
      refine Ev.step hj2 (ev_if_pos e5 ?_)
      have h4 : ∀ t k, impl_Reckon.j4 (k + 1) t a b s a' b' s' = if t = true then ((impl_null.f).bind fun bt => (some (bt.1, bt.2.1, bt.2.2))) else ((strings_Contains.f s s').bind fun t => ((impl_flag.f t).bind fun bt => (some (bt.1, bt.2.1, bt.2.2)))) := fun _ _ => rfl
      by_cases ha : a = 3
      · by_cases ha' : a' = 3
        · rw [if_neg (show ¬ (a != a' || a == 0) = true by simp [ha, ha']), if_pos (show (a == 3) = true from beq_iff_eq.mpr ha)]
          refine ev_if_pos ha (Ev.step (h4 _) (ev_if_neg (by simp [ha']) (ev_bind0 (a := Lib.contains s.data.toList s'.data.toList) ?_ (flg _))))
          unfold strings_Contains.f
          rw [if_pos (by omega)]
        · rw [if_pos (show (a != a' || a == 0) = true by simp [ha]; omega)]
          exact ev_if_pos ha (Ev.step (h4 _) (ev_if_pos (by simpa using ha') null))
      · refine ev_if_neg ha (Ev.step (h4 _) (ev_conv (ev_if_pos rfl null) ?_))
        rw [if_neg (show ¬ (a == 3) = true by simpa using ha)]
        split
        · rfl
        · split <;> rfl
    by_cases e1 : op.toList = ([97, 110, 100] : List UInt8)
    · exact ev_conv (Ev.step hj2 (ev_if_neg e5 (ev_if_pos e1 (logic false)))) (by unfold reckT; rw [if_pos e1])
    by_cases e2 : op.toList = ([111, 114] : List UInt8)
    · exact ev_conv (Ev.step hj2 (ev_if_neg e5 (ev_if_neg e1 (ev_if_pos e2 (logic true))))) (by unfold reckT; rw [if_neg e1, if_pos e2])
    refine ev_conv (Ev.step hj2 (ev_if_neg e5 (ev_if_neg e1 (ev_if_neg e2 null)))) ?_
    unfold reckT
    rw [if_neg e1, if_neg e2, if_neg e3, if_neg e4, show (op.toList == ([126] : List UInt8)) = false from beq_eq_false_iff_ne.mpr e5, Bool.false_and, if_neg (show ¬ (false = true) by simp)]
    unfold arithT
    rw [if_neg n1, if_neg n2, if_neg n3, if_neg n4]
    split
    · rfl
    · split <;> rfl
  have arith : (op.toList = [43] ∨ op.toList = [45] ∨ op.toList = [42] ∨ op.toList = [47]) → Ev (fun k => impl_Reckon.j0 k op op true a b s a' b' s') (reckT op.toList (a, b, s) (a', b', s')) := by
    intro ho
    have hr : reckT op.toList (a, b, s) (a', b', s') = if (a != a' || a == 0) = true then nullT else if a = 1 then arithT op.toList b b' else nullT := by
      unfold reckT
      rcases ho with h | h | h | h <;> rw [h] <;> rfl
    rw [hr]
    have hj : ∀ k, impl_Reckon.j0 (k + 1) op op true a b s a' b' s' = if a = 1 then impl_Reckon.j1 k op (a' != 1) a b s a' b' s' else impl_Reckon.j1 k op true a b s a' b' s' := fun _ => rfl
    have h1 : ∀ t k, impl_Reckon.j1 (k + 1) op t a b s a' b' s' = if t = true then ((impl_null.f).bind fun bt => (some (bt.1, bt.2.1, bt.2.2))) else ((impl_count.f k op b b').bind fun bt => (if bt.2 = true then ((impl_number.f bt.1).bind fun bt => (some (bt.1, bt.2.1, bt.2.2))) else ((impl_null.f).bind fun bt => (some (bt.1, bt.2.1, bt.2.2))))) := fun _ _ => rfl
    refine Ev.step hj ?_
    by_cases ha : a = 1
    · refine ev_if_pos ha (Ev.step (h1 _) ?_)
      by_cases ha' : a' = 1
      · rw [if_neg (show ¬ (a != a' || a == 0) = true by simp [ha, ha']), if_pos ha]
        refine ev_if_neg (by simp [ha']) (ev_shift 1 fun k => ?_)
        obtain ⟨n, ok, hc, he⟩ := count_is k op b b' ho
        rw [hc, Option.bind_some, ← he]
        cases ok <;> rfl
      · rw [if_pos (show (a != a' || a == 0) = true by simp [ha]; omega)]
        exact ev_if_pos (by simpa using ha') null
    · refine ev_conv (ev_if_neg ha (Ev.step (h1 _) (ev_if_pos rfl null))) ?_
      rw [if_neg ha]
      split <;> rfl
  unfold impl_Reckon.f
  by_cases e1 : op.toList = ([43] : List UInt8)
  · refine ev_if_pos e1 ?_
    rw [show (op.toList == ([43] : List UInt8)) = true from beq_iff_eq.mpr e1]
    exact arith (.inl e1)
  refine ev_if_neg e1 ?_
  by_cases e2 : op.toList = ([45] : List UInt8)
  · refine ev_if_pos e2 ?_
    rw [show (op.toList == ([45] : List UInt8)) = true from beq_iff_eq.mpr e2]
    exact arith (.inr (.inl e2))
  refine ev_if_neg e2 ?_
  by_cases e3 : op.toList = ([42] : List UInt8)
  · refine ev_if_pos e3 ?_
    rw [show (op.toList == ([42] : List UInt8)) = true from beq_iff_eq.mpr e3]
    exact arith (.inr (.inr (.inl e3)))
  refine ev_if_neg e3 ?_
  by_cases e4 : op.toList = ([47] : List UInt8)
  · rw [show (op.toList == ([47] : List UInt8)) = true from beq_iff_eq.mpr e4]
    exact arith (.inr (.inr (.inr e4)))
  · rw [show (op.toList == ([47] : List UInt8)) = false from beq_eq_false_iff_ne.mpr e4]
    exact other ⟨e1, e2, e3, e4⟩
/-! #### what is drawn -/
theorem and255 (n : Int) : Go.bits .and .i64 n 255 = n % 256 := by
  have e : Go.bits .and .i64 n 255 = IntKind.i64.wrap (((BitVec.ofInt 64 n) &&& (BitVec.ofInt 64 255)).toNat : Int) := rfl
  rw [e, BitVec.toNat_and, BitVec.toNat_ofInt, show (BitVec.ofInt 64 255).toNat = 2 ^ 8 - 1 from rfl, Nat.and_two_pow_sub_one_eq_mod, IntKind.wrap_i64]
  have : (n % ((2 ^ 64 : Nat) : Int)).toNat % 2 ^ 8 = (n % 256).toNat := by
    have h : (2 ^ 64 : Nat) = 18446744073709551616 := by decide
    rw [h]
    omega
  rw [this]
  omega
theorem byte_is (l : List Int) (i h : Int) (h0 : 0 ≤ i) (hl : l.length ≤ 1048576) (hi : i ≤ 1048576) : ∃ x i' h', spec_l01Byte.f l i h = some (x, i', h') ∧ 0 ≤ x ∧ x ≤ 255 ∧ 0 ≤ i' ∧ i' ≤ 1048576 := by
  unfold spec_l01Byte.f
  by_cases c : i < (l.length : Int)
  · rw [if_pos c, if_pos h0]
    refine ⟨_, _, _, rfl, ?_, ?_, ?_, ?_⟩
    · rw [and255]; omega
    · rw [and255]; omega
    · rw [wrap_id (by omega) (by omega)]; omega
    · rw [wrap_id (by omega) (by omega)]; omega
  · rw [if_neg c]
    refine ⟨_, _, _, rfl, ?_, ?_, h0, hi⟩
    · rw [and255]; omega
    · rw [and255]; omega
theorem below_is (l : List Int) (i h n : Int) (h0 : 0 ≤ i) (hl : l.length ≤ 1048576) (hi : i ≤ 1048576) : ∃ x i' h', spec_l01Below.f l i h n = some (x, i', h') ∧ 0 ≤ x ∧ (0 < n → x < n) ∧ 0 ≤ i' ∧ i' ≤ 1048576 := by
  unfold spec_l01Below.f
  by_cases c : n ≤ 0
  · rw [if_pos c]
    exact ⟨0, i, h, rfl, by omega, fun g => by omega, h0, hi⟩
  rw [if_neg c]
  by_cases d : n ≤ 256
  · rw [if_pos d]
    obtain ⟨x, i1, h1, e, x0, x1, g0, g1⟩ := byte_is l i h h0 hl hi
    rw [e, Option.bind_some, if_neg (by omega)]
    refine ⟨_, _, _, rfl, ?_, fun _ => ?_, g0, g1⟩
    · exact Int.tmod_nonneg _ x0
    · exact Int.tmod_lt_of_pos _ (by omega)
  · rw [if_neg d]
    obtain ⟨x, i1, h1, e1, x0, x1, g0, g1⟩ := byte_is l i h h0 hl hi
    obtain ⟨y, i2, h2, e2, y0, y1, g2, g3⟩ := byte_is l i1 h1 g0 hl g1
    obtain ⟨z, i3, h3, e3, z0, z1, g4, g5⟩ := byte_is l i2 h2 g2 hl g3
    obtain ⟨w, i4, h4, e4, w0, w1, g6, g7⟩ := byte_is l i3 h3 g4 hl g5
    simp only [e1, e2, e3, e4, Option.bind_some]
    rw [if_neg (by omega)]
    refine ⟨_, _, _, rfl, ?_, fun _ => ?_, g6, g7⟩
    · refine Int.tmod_nonneg _ ?_
      unfold wrap64
      omega
    · exact Int.tmod_lt_of_pos _ (by omega)
theorem once_is (l : List Int) (i h n : Int) (h0 : 0 ≤ i) (hl : l.length ≤ 1048576) (hi : i ≤ 1048576) : ∃ x i' h', spec_l01Once.f l i h n = some (x, i', h') ∧ 0 ≤ i' ∧ i' ≤ 1048576 := by
  obtain ⟨x, i1, h1, e, _, _, g0, g1⟩ := below_is l i h n h0 hl hi
  unfold spec_l01Once.f
  rw [e]
  exact ⟨_, _, _, rfl, g0, g1⟩
theorem pickInt_is (l : List Int) (i h : Int) (xs : List Int) (hx : 0 < xs.length) (h0 : 0 ≤ i) (hl : l.length ≤ 1048576) (hi : i ≤ 1048576) : ∃ x i' h', spec_l01PickInt.f l i h xs = some (x, i', h') ∧ x ∈ xs ∧ 0 ≤ i' ∧ i' ≤ 1048576 := by
  obtain ⟨x, i1, h1, e, x0, x1, g0, g1⟩ := below_is l i h (xs.length : Int) h0 hl hi
  have x2 := x1 (by omega)
  unfold spec_l01PickInt.f
  rw [e, Option.bind_some, if_pos x0, if_pos x2]
  exact ⟨_, _, _, rfl, getD_mem 0 (by omega), g0, g1⟩
theorem pick_is (l : List Int) (i h : Int) (xs : List ByteArray) (hx : 0 < xs.length) (h0 : 0 ≤ i) (hl : l.length ≤ 1048576) (hi : i ≤ 1048576) : ∃ x i' h', spec_l01Pick.f l i h xs = some (x, i', h') ∧ x ∈ xs ∧ 0 ≤ i' ∧ i' ≤ 1048576 := by
  obtain ⟨x, i1, h1, e, x0, x1, g0, g1⟩ := below_is l i h (xs.length : Int) h0 hl hi
  have x2 := x1 (by omega)
  unfold spec_l01Pick.f
  rw [e, Option.bind_some, if_pos x0, if_pos x2]
  exact ⟨_, _, _, rfl, getD_mem ByteArray.empty (by omega), g0, g1⟩
theorem new_is (l : List Int) (hl : l.length ≤ 1048576) : ∃ h, Ev (fun k => spec_l01New.f k l) (l, 0, h) := by
  have loop : ∀ (n i : Nat) (h : Int), l.length - i = n → i ≤ l.length → ∃ h', Ev (fun k => spec_l01New.l0 k l h i) (l, 0, h') := by
    intro n
    induction n with
    | zero =>
      intro i h h1 h2
      exact ⟨h, Ev.step (fun k => rfl) (ev_if_neg (by omega) (ev_some fun _ => rfl))⟩
    | succ n ih =>
      intro i h h1 h2
      by_cases c : (i : Int) < 4000
      · obtain ⟨h', e⟩ := ih (i + 1) (Go.bits .and .i64 (wrap64 ((wrap64 ((wrap64 (h * 131)) + (wrap64 (rd l (i : Int))))) + 7)) 1073741823) (by omega) (by omega)
        refine ⟨h', Ev.step (fun k => rfl) (ev_if_pos (by omega) (ev_if_pos c (ev_if_pos (by omega) ?_)))⟩
        rw [wrap_succ (n := l.length) (by omega) (by omega)]
        exact e
      · exact ⟨h, Ev.step (fun k => rfl) (ev_if_pos (by omega) (ev_if_neg c (ev_some fun _ => rfl)))⟩
  obtain ⟨h', e⟩ := loop _ 0 (wrap64 (312312 + (l.length : Int))) rfl (Nat.zero_le _)
  exact ⟨h', Ev.congr (fun k => rfl) e⟩
/-- A value that is drawn. -/
def okD (a b : Int) (s : ByteArray) : Prop := -9223372036854775808 ≤ a ∧ a ≤ 9223372036854775807 ∧ -9223372036854775808 ≤ b ∧ b ≤ 9223372036854775807 ∧ s.size ≤ 20
theorem drawVal_is (l : List Int) (i h : Int) (h0 : 0 ≤ i) (hl : l.length ≤ 1048576) (hi : i ≤ 1048576) : ∃ a b s i' h', Ev (fun k => spec_l01Value.f k l i h) (a, b, s, i', h') ∧ okD a b s ∧ 0 ≤ i' ∧ i' ≤ 1048576 := by
  obtain ⟨x, i1, h1, e, x0, x1, g0, g1⟩ := below_is l i h 9 h0 hl hi
  by_cases c0 : x = 0
  · exact ⟨0, 0, ⟨#[]⟩, i1, h1, ev_bind0 e (ev_if_pos c0 (ev_some fun _ => rfl)), ⟨by decide, by decide, by decide, by decide, by decide⟩, g0, g1⟩
  have num : ∃ a b s i' h', (∀ x, Ev (fun k => spec_l01Value.j0 k x true l i1 h1) (a, b, s, i', h')) ∧ okD a b s ∧ 0 ≤ i' ∧ i' ≤ 1048576 := by
    obtain ⟨y, i2, h2, e2, y0, y1, g2, g3⟩ := below_is l i1 h1 5 g0 hl g1
    have y2 := y1 (by decide)
    exact ⟨1, y, ⟨#[]⟩, i2, h2, fun x => ⟨1, fun k hk => by
      obtain ⟨j, rfl⟩ : ∃ j, k = j + 1 := ⟨k - 1, by omega⟩
      show (spec_l01Below.f l i1 h1 5).bind _ = _
      rw [e2]
      rfl⟩, ⟨by decide, by decide, by show (-9223372036854775808 : Int) ≤ y; omega, by show y ≤ (9223372036854775807 : Int); omega, by decide⟩, g2, g3⟩
  obtain ⟨a, b, s, i', h', en, ok, n0, n1⟩ := num
  by_cases c1 : x = 1
  · exact ⟨a, b, s, i', h', ev_bind0 e (ev_if_neg c0 (ev_if_pos c1 (by rw [show (x == 1) = true from beq_iff_eq.2 c1]; exact en _))), ok, n0, n1⟩
  by_cases c2 : x = 2
  · exact ⟨a, b, s, i', h', ev_bind0 e (ev_if_neg c0 (ev_if_neg c1 (ev_if_pos c2 (by rw [show (x == 2) = true from beq_iff_eq.2 c2]; exact en _)))), ok, n0, n1⟩
  by_cases c3 : x = 3
  · exact ⟨a, b, s, i', h', ev_bind0 e (ev_if_neg c0 (ev_if_neg c1 (ev_if_neg c2 (by rw [show (x == 3) = true from beq_iff_eq.2 c3]; exact en _)))), ok, n0, n1⟩
  clear en ok n0 n1
  have hj : ∀ k, spec_l01Value.j0 (k + 1) x false l i1 h1 = if x = 4 then ((spec_l01PickInt.f l i1 h1 [9223372036854775807, (-9223372036854775808), (-1), 4294967296, (-7), 100]).bind fun bt => ((spec_l01Int.f bt.1).bind fun bu => (some (bu.1, bu.2.1, bu.2.2, bt.2.1, bt.2.2)))) else (if x = 5 then ((spec_l01Once.f l i1 h1 2).bind fun bt => ((spec_l01Bool.f bt.1).bind fun bu => (some (bu.1, bu.2.1, bu.2.2, bt.2.1, bt.2.2)))) else ((spec_l01Pick.f l i1 h1 [(⟨#[97]⟩ : ByteArray), (⟨#[98]⟩ : ByteArray), (⟨#[97, 98]⟩ : ByteArray), (⟨#[]⟩ : ByteArray), (⟨#[105, 116, 39, 115]⟩ : ByteArray)]).bind fun bt => (some (3, 0, bt.1, bt.2.1, bt.2.2)))) := fun k => rfl
  have w3 : (x == 3) = false := beq_eq_false_iff_ne.2 c3
  have top : ∀ r, Ev (fun k => spec_l01Value.j0 k x false l i1 h1) r → Ev (fun k => spec_l01Value.f k l i h) r := fun r hr => by
    rw [← w3] at hr
    exact ev_bind0 e (ev_if_neg c0 (ev_if_neg c1 (ev_if_neg c2 hr)))
  by_cases c4 : x = 4
  · obtain ⟨y, i2, h2, e2, y0, g2, g3⟩ := pickInt_is l i1 h1 [9223372036854775807, (-9223372036854775808), (-1), 4294967296, (-7), 100] (by decide) g0 hl g1
    have yb : -9223372036854775808 ≤ y ∧ y ≤ 9223372036854775807 := by
      simp only [List.mem_cons, List.not_mem_nil, or_false] at y0
      omega
    exact ⟨1, y, ⟨#[]⟩, i2, h2, top _ (Ev.step hj (ev_if_pos c4 (ev_bind0 e2 (ev_some fun _ => rfl)))), ⟨by decide, by decide, yb.1, yb.2, by decide⟩, g2, g3⟩
  by_cases c5 : x = 5
  · obtain ⟨y, i2, h2, e2, g2, g3⟩ := once_is l i1 h1 2 g0 hl g1
    cases y with
    | true => exact ⟨2, 1, ⟨#[]⟩, i2, h2, top _ (Ev.step hj (ev_if_neg c4 (ev_if_pos c5 (ev_bind0 e2 (ev_some fun _ => rfl))))), ⟨by decide, by decide, by decide, by decide, by decide⟩, g2, g3⟩
    | false => exact ⟨2, 0, ⟨#[]⟩, i2, h2, top _ (Ev.step hj (ev_if_neg c4 (ev_if_pos c5 (ev_bind0 e2 (ev_some fun _ => rfl))))), ⟨by decide, by decide, by decide, by decide, by decide⟩, g2, g3⟩
  · obtain ⟨y, i2, h2, e2, y0, g2, g3⟩ := pick_is l i1 h1 [(⟨#[97]⟩ : ByteArray), (⟨#[98]⟩ : ByteArray), (⟨#[97, 98]⟩ : ByteArray), (⟨#[]⟩ : ByteArray), (⟨#[105, 116, 39, 115]⟩ : ByteArray)] (by decide) g0 hl g1
    have ys : y.size ≤ 10 := by
      simp only [List.mem_cons, List.not_mem_nil, or_false] at y0
      rcases y0 with rfl | rfl | rfl | rfl | rfl <;> decide
    exact ⟨3, 0, y, i2, h2, top _ (Ev.step hj (ev_if_neg c4 (ev_if_neg c5 (ev_bind0 e2 (ev_some fun _ => rfl))))), ⟨by decide, by decide, by decide, by decide, by omega⟩, g2, g3⟩
theorem any_is (l : List Int) (i h : Int) (h0 : 0 ≤ i) (hl : l.length ≤ 1048576) (hi : i ≤ 1048576) : ∃ a b s i' h', Ev (fun k => spec_l01Any.f k l i h) (a, b, s, i', h') ∧ -9223372036854775808 ≤ a ∧ a ≤ 9223372036854775807 ∧ -9223372036854775808 ≤ b ∧ b ≤ 9223372036854775807 ∧ s.size ≤ 100 ∧ 0 ≤ i' ∧ i' ≤ 1048576 := by
  obtain ⟨a, b, s, i1, h1, e, ⟨a0, a1, b0, b1, s0⟩, g0, g1⟩ := drawVal_is l i h h0 hl hi
  obtain ⟨x, i2, h2, e2, g2, g3⟩ := once_is l i1 h1 12 g0 hl g1
  have hx : (s ++ (⟨#[120]⟩ : ByteArray)).size ≤ 100 := by
    rw [ByteArray.size_append]
    have : (⟨#[120]⟩ : ByteArray).size = 1 := rfl
    omega
  cases x with
  | true =>
    obtain ⟨y, i3, h3, e3, y0, g4, g5⟩ := pickInt_is l i2 h2 [(-1), 4, 2, 0] (by decide) g2 hl g3
    have yb : -9223372036854775808 ≤ y ∧ y ≤ 9223372036854775807 := by
      simp only [List.mem_cons, List.not_mem_nil, or_false] at y0
      omega
    obtain ⟨z, i4, h4, e4, g6, g7⟩ := once_is l i3 h3 20 g4 hl g5
    cases z with
    | true => exact ⟨_, _, _, _, _, Ev.bind e (ev_bind0 e2 (ev_if_pos rfl (ev_bind0 e3 (ev_bind0 e4 (ev_if_pos rfl (ev_if_pos (by show s.size + 1 ≤ 9223372036854775807; omega) (ev_some fun _ => rfl))))))), yb.1, yb.2, b0, b1, hx, g6, g7⟩
    | false => exact ⟨_, _, _, _, _, Ev.bind e (ev_bind0 e2 (ev_if_pos rfl (ev_bind0 e3 (ev_bind0 e4 (ev_if_neg (by simp) (ev_some fun _ => rfl)))))), yb.1, yb.2, b0, b1, by show s.size ≤ 100; omega, g6, g7⟩
  | false =>
    obtain ⟨z, i4, h4, e4, g6, g7⟩ := once_is l i2 h2 20 g2 hl g3
    cases z with
    | true => exact ⟨_, _, _, _, _, Ev.bind e (ev_bind0 e2 (ev_if_neg (by simp) (ev_bind0 e4 (ev_if_pos rfl (ev_if_pos (by show s.size + 1 ≤ 9223372036854775807; omega) (ev_some fun _ => rfl)))))), a0, a1, b0, b1, hx, g6, g7⟩
    | false => exact ⟨_, _, _, _, _, Ev.bind e (ev_bind0 e2 (ev_if_neg (by simp) (ev_bind0 e4 (ev_if_neg (by simp) (ev_some fun _ => rfl))))), a0, a1, b0, b1, by show s.size ≤ 100; omega, g6, g7⟩
/-! #### the order of values -/
theorem bl_cons (a b : UInt8) (l m : List UInt8) : Op.bytesLess (a :: l) (b :: m) = (decide (a < b) || (a == b && Op.bytesLess l m)) := by rw [Op.bytesLess]
theorem bl_nil (l : List UInt8) : Op.bytesLess l [] = false := by cases l <;> rfl
theorem bl_irrefl : ∀ l, Op.bytesLess l l = false
  | [] => rfl
  | a :: l => by
    rw [bl_cons, bl_irrefl l]
    simp
theorem bl_tri : ∀ l m, Op.bytesLess l m = true ∨ l = m ∨ Op.bytesLess m l = true
  | [], [] => Or.inr (Or.inl rfl)
  | [], _ :: _ => Or.inl rfl
  | _ :: _, [] => Or.inr (Or.inr rfl)
  | a :: l, b :: m => by
    rw [bl_cons, bl_cons]
    rcases Nat.lt_trichotomy a.toNat b.toNat with h | h | h
    · exact Or.inl (by rw [show decide (a < b) = true from decide_eq_true h, Bool.true_or])
    · have e : a = b := UInt8.toNat_inj.1 h
      subst e
      rcases bl_tri l m with g | g | g
      · exact Or.inl (by simp [g])
      · exact Or.inr (Or.inl (by rw [g]))
      · exact Or.inr (Or.inr (by simp [g]))
    · exact Or.inr (Or.inr (by rw [show decide (b < a) = true from decide_eq_true h, Bool.true_or]))
theorem bl_trans : ∀ {l m n : List UInt8}, Op.bytesLess l m = true → Op.bytesLess m n = true → Op.bytesLess l n = true
  | _, [], _, h, _ => by rw [bl_nil] at h; cases h
  | _, _ :: _, [], _, h => by rw [bl_nil] at h; cases h
  | [], _ :: _, _ :: _, _, _ => rfl
  | a :: l, b :: m, c :: n, h, g => by
    rw [bl_cons, Bool.or_eq_true, decide_eq_true_eq, Bool.and_eq_true, beq_iff_eq] at *
    rcases h with h | ⟨rfl, h⟩
    · rcases g with g | ⟨rfl, g⟩
      · exact Or.inl (Nat.lt_trans h g)
      · exact Or.inl h
    · rcases g with g | ⟨rfl, g⟩
      · exact Or.inl g
      · exact Or.inr ⟨rfl, bl_trans h g⟩
theorem bl_asymm {l m : List UInt8} (h : Op.bytesLess l m = true) : Op.bytesLess m l = false := by
  cases g : Op.bytesLess m l with
  | false => rfl
  | true => exact absurd (bl_trans h g) (by rw [bl_irrefl]; simp)
/-- Is one value ahead of another. -/
def ltV (a b : Int) (s : List UInt8) (a' b' : Int) (s' : List UInt8) : Prop := a < a' ∨ (a = a' ∧ (b < b' ∨ (b = b' ∧ Op.bytesLess s s' = true)))
theorem cmpV_cases (a b : Int) (s : ByteArray) (a' b' : Int) (s' : ByteArray) :
    (cmpV a b s a' b' s' = -1 ∧ ltV a b s.toList a' b' s'.toList) ∨ (cmpV a b s a' b' s' = 0 ∧ a = a' ∧ b = b' ∧ s.toList = s'.toList) ∨ (cmpV a b s a' b' s' = 1 ∧ ltV a' b' s'.toList a b s.toList) := by
  unfold cmpV ltV
  by_cases h1 : a < a'
  · rw [if_pos h1]; exact Or.inl ⟨rfl, Or.inl h1⟩
  rw [if_neg h1]
  by_cases h2 : a' < a
  · rw [if_pos h2]; exact Or.inr (Or.inr ⟨rfl, Or.inl h2⟩)
  rw [if_neg h2]
  have e1 : a = a' := by omega
  by_cases h3 : b < b'
  · rw [if_pos h3]; exact Or.inl ⟨rfl, Or.inr ⟨e1, Or.inl h3⟩⟩
  rw [if_neg h3]
  by_cases h4 : b' < b
  · rw [if_pos h4]; exact Or.inr (Or.inr ⟨rfl, Or.inr ⟨e1.symm, Or.inl h4⟩⟩)
  rw [if_neg h4]
  have e2 : b = b' := by omega
  rcases bl_tri s.toList s'.toList with h | h | h
  · rw [if_pos h]; exact Or.inl ⟨rfl, Or.inr ⟨e1, Or.inr ⟨e2, h⟩⟩⟩
  · rw [h, bl_irrefl]; exact Or.inr (Or.inl ⟨by simp, e1, e2, rfl⟩)
  · have hn : s.toList ≠ s'.toList := fun e => by rw [e, bl_irrefl] at h; cases h
    rw [bl_asymm h, if_neg (by simp), if_neg (by simp [hn])]
    exact Or.inr (Or.inr ⟨rfl, Or.inr ⟨e1.symm, Or.inr ⟨e2.symm, h⟩⟩⟩)
theorem ltV_trans {a b c : Int} {a' b' c' : Int} {s t u : List UInt8} (h : ltV a a' s b b' t) (g : ltV b b' t c c' u) : ltV a a' s c c' u := by
  unfold ltV at *
  rcases h with h | ⟨rfl, h | ⟨rfl, h⟩⟩
  · rcases g with g | ⟨rfl, _⟩
    · exact Or.inl (by omega)
    · exact Or.inl h
  · rcases g with g | ⟨rfl, g | ⟨rfl, g⟩⟩
    · exact Or.inl g
    · exact Or.inr ⟨rfl, Or.inl (by omega)⟩
    · exact Or.inr ⟨rfl, Or.inl h⟩
  · rcases g with g | ⟨rfl, g | ⟨rfl, g⟩⟩
    · exact Or.inl g
    · exact Or.inr ⟨rfl, Or.inl g⟩
    · exact Or.inr ⟨rfl, Or.inr ⟨rfl, bl_trans h g⟩⟩
theorem ltV_irrefl {a b : Int} {s : List UInt8} : ¬ ltV a b s a b s := by
  unfold ltV
  rintro (h | ⟨_, h | ⟨_, h⟩⟩)
  · omega
  · omega
  · rw [bl_irrefl] at h; cases h
theorem cmpV_anti (a b : Int) (s : ByteArray) (a' b' : Int) (s' : ByteArray) : cmpV a b s a' b' s' = wrap64 (-(cmpV a' b' s' a b s)) := by
  rcases cmpV_cases a b s a' b' s' with ⟨e, h⟩ | ⟨e, e1, e2, h⟩ | ⟨e, h⟩
  · rcases cmpV_cases a' b' s' a b s with ⟨f, g⟩ | ⟨f, g1, g2, g3⟩ | ⟨f, g⟩
    · exact absurd (ltV_trans h g) ltV_irrefl
    · rw [g1, g2, g3] at h; exact absurd h ltV_irrefl
    · rw [e, f]; unfold wrap64; omega
  · rcases cmpV_cases a' b' s' a b s with ⟨f, g⟩ | ⟨f, g1, g2, g3⟩ | ⟨f, g⟩
    · rw [e1, e2, h] at g; exact absurd g ltV_irrefl
    · rw [e, f]; unfold wrap64; omega
    · rw [e1, e2, h] at g; exact absurd g ltV_irrefl
  · rcases cmpV_cases a' b' s' a b s with ⟨f, g⟩ | ⟨f, g1, g2, g3⟩ | ⟨f, g⟩
    · rw [e, f]; unfold wrap64; omega
    · rw [g1, g2, g3] at h; exact absurd h ltV_irrefl
    · exact absurd (ltV_trans h g) ltV_irrefl
theorem cmpV_zero (a b : Int) (s : ByteArray) (a' b' : Int) (s' : ByteArray) : (cmpV a b s a' b' s' == 0) = (a == a' && (b == b' && (s.toList == s'.toList))) := by
  rcases cmpV_cases a b s a' b' s' with ⟨e, h⟩ | ⟨e, rfl, rfl, h⟩ | ⟨e, h⟩
  · rw [e]
    cases g : (a == a' && (b == b' && (s.toList == s'.toList))) with
    | false => rfl
    | true =>
      simp only [Bool.and_eq_true, beq_iff_eq] at g
      obtain ⟨rfl, rfl, g⟩ := g
      rw [g] at h
      exact absurd h ltV_irrefl
  · rw [e, h]
    simp
  · rw [e]
    cases g : (a == a' && (b == b' && (s.toList == s'.toList))) with
    | false => rfl
    | true =>
      simp only [Bool.and_eq_true, beq_iff_eq] at g
      obtain ⟨rfl, rfl, g⟩ := g
      rw [g] at h
      exact absurd h ltV_irrefl
theorem cmpV_le_trans {a b : Int} {s : ByteArray} {a' b' : Int} {s' : ByteArray} {a'' b'' : Int} {s'' : ByteArray} (h : cmpV a b s a' b' s' ≤ 0) (g : cmpV a' b' s' a'' b'' s'' ≤ 0) : ¬ cmpV a b s a'' b'' s'' > 0 := by
  intro k
  rcases cmpV_cases a b s a'' b'' s'' with ⟨e, _⟩ | ⟨e, _⟩ | ⟨_, k'⟩
  · omega
  · omega
  rcases cmpV_cases a b s a' b' s' with ⟨_, h'⟩ | ⟨_, rfl, rfl, h'⟩ | ⟨e, _⟩
  · rcases cmpV_cases a' b' s' a'' b'' s'' with ⟨_, g'⟩ | ⟨_, rfl, rfl, g'⟩ | ⟨e, _⟩
    · exact ltV_irrefl (ltV_trans (ltV_trans h' g') k')
    · rw [g'] at h'; exact ltV_irrefl (ltV_trans h' k')
    · omega
  · rcases cmpV_cases a b s' a'' b'' s'' with ⟨_, g'⟩ | ⟨_, rfl, rfl, g'⟩ | ⟨e, _⟩
    · rw [← h'] at g'; exact ltV_irrefl (ltV_trans g' k')
    · rw [h', g'] at k'; exact ltV_irrefl k'
    · omega
  · omega
/-! #### FnReckon -/
def notT (t : Int × Int × ByteArray) : Int × Int × ByteArray := if t.1 = 2 then flagT (t.2.1 == 0) else nullT
def isNullT (t : Int × Int × ByteArray) : Int × Int × ByteArray := flagT (t.1 == 0)
theorem implNot_is (a b : Int) (s : ByteArray) : impl_Not.f a b s = some (notT (a, b, s)) := by
  unfold impl_Not.f notT
  rw [flag_is]
  by_cases h : a = 2 <;> simp [h, impl_null.f, nullT]
theorem specNot_is (a b : Int) (s : ByteArray) : spec_Not.f a b s = some (notT (a, b, s)) := by
  unfold spec_Not.f notT
  rw [l01Bool_is]
  by_cases h : a = 2 <;> simp [h, nullT]
theorem implIsNull_is (a b : Int) (s : ByteArray) : impl_IsNull.f a b s = some (isNullT (a, b, s)) := by
  unfold impl_IsNull.f isNullT
  rw [flag_is]
  rfl
theorem specIsNull_is (a b : Int) (s : ByteArray) : spec_IsNull.f a b s = some (isNullT (a, b, s)) := by
  unfold spec_IsNull.f isNullT
  rw [l01Bool_is]
  rfl
def isT (t : Int × Int × ByteArray) : Bool := t.1 == 2 && t.2.1 == 1
theorem implIsTrue_is (a b : Int) (s : ByteArray) : impl_IsTrue.f a b s = some (isT (a, b, s)) := by
  unfold impl_IsTrue.f isT
  by_cases h : a = 2 <;> simp [h]
theorem specIsTrue_is (a b : Int) (s : ByteArray) : spec_IsTrue.f a b s = some (isT (a, b, s)) := implIsTrue_is a b s
def okT (t : Int × Int × ByteArray) : Bool := okV t.1 t.2.1 t.2.2.data.toList
theorem okT_flag (b : Bool) : okT (flagT b) = true := by cases b <;> rfl
theorem okT_null : okT nullT = true := rfl
theorem okT_int (n : Int) : okT (intT n) = true := rfl
theorem okT_ite {c : Prop} [Decidable c] {a b : Int × Int × ByteArray} (ha : okT a = true) (hb : okT b = true) : okT (if c then a else b) = true := by split <;> assumption
theorem okT_logic (o : Bool) (x y : Int × Int × ByteArray) : okT (logicT o x y) = true := okT_ite (okT_flag _) (okT_ite (okT_flag _) okT_null)
theorem okT_arith (op : List UInt8) (x y : Int) : okT (arithT op x y) = true :=
  okT_ite (okT_ite okT_null (okT_int _)) (okT_ite (okT_ite okT_null (okT_int _)) (okT_ite (okT_ite (okT_int _) (okT_ite (okT_int _) (okT_ite (okT_int _) okT_null)))
    (okT_ite (okT_ite okT_null (okT_ite okT_null (okT_ite (okT_int _) (okT_ite (okT_int _) (okT_int _))))) okT_null)))
theorem okT_reck (op : List UInt8) (x y : Int × Int × ByteArray) : okT (reckT op x y) = true :=
  okT_ite (okT_logic _ _ _) (okT_ite (okT_logic _ _ _) (okT_ite okT_null (okT_ite (okT_flag _) (okT_ite (okT_flag _) (okT_ite (okT_flag _) (okT_ite (okT_arith _ _ _) okT_null))))))
theorem logic_comm (o : Bool) (x y : Int × Int × ByteArray) : logicT o x y = logicT o y x := by
  unfold logicT
  rw [Bool.or_comm, Bool.and_comm]
/-- A right value is true if it is the flag. -/
theorem isT_flag {x : Int × Int × ByteArray} (h : okT x = true) : isT x = eqT x (flagT true) := by
  obtain ⟨a, b, s⟩ := x
  unfold isT eqT flagT
  by_cases h2 : a = 2
  · subst h2
    have hs : s.data.toList = [] := by
      have h' : okV 2 b s.data.toList = true := h
      unfold okV at h'
      rw [if_neg (by decide), if_neg (by decide), if_pos rfl, Bool.and_eq_true, List.isEmpty_iff] at h'
      exact h'.2
    simp [toList_data, hs]
  · have q : (a == 2) = false := beq_eq_false_iff_ne.2 h2
    show (a == 2 && _) = (a == 2 && _)
    rw [q]
    rfl
theorem flag_ne {x : Int × Int × ByteArray} (o : Bool) (h : eqT x (flagT o) = true) : eqT x (flagT (!o)) = false := by
  obtain ⟨a, b, s⟩ := x
  unfold eqT flagT at *
  cases o with
  | false =>
    simp at h ⊢
    obtain ⟨rfl, rfl, _⟩ := h
    simp
  | true =>
    simp at h ⊢
    obtain ⟨rfl, rfl, _⟩ := h
    simp
theorem isT_and {x y : Int × Int × ByteArray} (hx : okT x = true) (hy : okT y = true) : isT (logicT false x y) = (isT x && isT y) := by
  rw [isT_flag hx, isT_flag hy]
  unfold logicT
  cases h1 : eqT x (flagT true) with
  | true =>
    have a1 : eqT x (flagT false) = false := flag_ne true h1
    cases h2 : eqT y (flagT true) with
    | true =>
      have a2 : eqT y (flagT false) = false := flag_ne true h2
      simp [a1, a2, h1, h2]
      rfl
    | false =>
      cases h3 : eqT y (flagT false) <;> simp [a1, h1, h2, h3] <;> rfl
  | false => cases h3 : eqT x (flagT false) <;> cases h4 : eqT y (flagT false) <;> simp [h1, h3, h4] <;> rfl
theorem isT_or {x y : Int × Int × ByteArray} (hx : okT x = true) (hy : okT y = true) : isT (logicT true x y) = (isT x || isT y) := by
  rw [isT_flag hx, isT_flag hy]
  unfold logicT
  cases h1 : eqT x (flagT true) with
  | true => simp [h1]; rfl
  | false =>
    cases h2 : eqT y (flagT true) with
    | true => simp [h1, h2]; rfl
    | false => cases h3 : eqT x (flagT false) <;> cases h4 : eqT y (flagT false) <;> simp [h1, h2, h3, h4] <;> rfl
theorem bool_of {b : Int} {s : ByteArray} (h : okT (2, b, s) = true) : (b = 0 ∨ b = 1) ∧ s = ⟨#[]⟩ := by
  have h' : okV 2 b s.data.toList = true := h
  unfold okV at h'
  rw [if_neg (by decide), if_neg (by decide), if_pos rfl, Bool.and_eq_true, List.isEmpty_iff, decide_eq_true_eq] at h'
  refine ⟨by omega, ?_⟩
  rw [← mkB_of s, h'.2]
  rfl
theorem deMorgan {b b' : Int} {s s' : ByteArray} (hx : okT (2, b, s) = true) (hy : okT (2, b', s') = true) : notT (logicT false (2, b, s) (2, b', s')) = logicT true (notT (2, b, s)) (notT (2, b', s')) := by
  obtain ⟨hb, rfl⟩ := bool_of hx
  obtain ⟨hb', rfl⟩ := bool_of hy
  have e0 : (⟨#[]⟩ : ByteArray).toList = [] := by rw [toList_data]
  rcases hb with rfl | rfl <;> rcases hb' with rfl | rfl <;> simp [notT, logicT, eqT, flagT, nullT, e0]
theorem three_is {x y : Int × Int × ByteArray} (h : (reckT [60] x y).1 = 2) : (wrap64 (wrap64 ((reckT [60] x y).2.1 + (reckT [61] x y).2.1) + (reckT [60] y x).2.1)) = 1 := by
  obtain ⟨a, b, s⟩ := x
  obtain ⟨a', b', s'⟩ := y
  unfold reckT at *
  rw [if_neg (by decide), if_neg (by decide)] at *
  by_cases hk : (a != a' || a == 0) = true
  · rw [if_pos hk] at h
    exact absurd h (by decide)
  have hk' : ¬ (a' != a || a' == 0) = true := by
    intro g
    apply hk
    simp only [Bool.or_eq_true, bne_iff_ne, beq_iff_eq] at g ⊢
    omega
  rw [if_neg hk, if_neg (by decide), if_pos rfl] at h
  rw [if_neg hk, if_neg (by decide), if_pos rfl, if_neg (by decide), if_neg (by decide), if_neg hk, if_pos rfl, if_neg (by decide), if_neg (by decide), if_neg hk', if_neg (by decide), if_pos rfl]
  rcases cmpV_cases a b s a' b' s' with ⟨e, g⟩ | ⟨e, e1, e2, g⟩ | ⟨e, g⟩
  · rcases cmpV_cases a' b' s' a b s with ⟨e', g'⟩ | ⟨e', f1, f2, f3⟩ | ⟨e', g'⟩
    · exact absurd (ltV_trans g g') ltV_irrefl
    · rw [f1, f2, f3] at g; exact absurd g ltV_irrefl
    · show wrap64 (wrap64 ((flagT (decide (cmpV a b s a' b' s' < 0))).2.1 + (flagT (cmpV a b s a' b' s' == 0)).2.1) + (flagT (decide (cmpV a' b' s' a b s < 0))).2.1) = 1
      rw [e, e']; simp [flagT, wrap64]
  · rcases cmpV_cases a' b' s' a b s with ⟨e', g'⟩ | ⟨e', f1, f2, f3⟩ | ⟨e', g'⟩
    · rw [e1, e2, g] at g'; exact absurd g' ltV_irrefl
    · show wrap64 (wrap64 ((flagT (decide (cmpV a b s a' b' s' < 0))).2.1 + (flagT (cmpV a b s a' b' s' == 0)).2.1) + (flagT (decide (cmpV a' b' s' a b s < 0))).2.1) = 1
      rw [e, e']; simp [flagT, wrap64]
    · rw [e1, e2, g] at g'; exact absurd g' ltV_irrefl
  · rcases cmpV_cases a' b' s' a b s with ⟨e', g'⟩ | ⟨e', f1, f2, f3⟩ | ⟨e', g'⟩
    · show wrap64 (wrap64 ((flagT (decide (cmpV a b s a' b' s' < 0))).2.1 + (flagT (cmpV a b s a' b' s' == 0)).2.1) + (flagT (decide (cmpV a' b' s' a b s < 0))).2.1) = 1
      rw [e, e']; simp [flagT, wrap64]
    · rw [f1, f2, f3] at g; exact absurd g ltV_irrefl
    · exact absurd (ltV_trans g g') ltV_irrefl
theorem td_tm (b d : Int) : d * Int.tdiv b d + Int.tmod b d = b := by
  rw [Int.tmod_def]
  omega
/-- What is left by a division downwards. -/
theorem floor_left (b d : Int) (hd : d ≠ 0) (Q : Int) (hQ : Q = if Int.tmod b d = 0 then Int.tdiv b d else if (decide (b < 0) != decide (d < 0)) = true then Int.tdiv b d - 1 else Int.tdiv b d) :
    (0 < d → 0 ≤ b - Q * d ∧ b - Q * d < d) ∧ (d < 0 → d < b - Q * d ∧ b - Q * d ≤ 0) := by
  have e := td_tm b d
  have hlt : (Int.tmod b d).natAbs < d.natAbs := by
    rw [Int.natAbs_tmod]
    exact Nat.mod_lt _ (by omega)
  have hpos : 0 ≤ b → 0 ≤ Int.tmod b d := fun h => Int.tmod_nonneg d h
  have hneg : b ≤ 0 → Int.tmod b d ≤ 0 := fun h => by
    have := Int.tmod_nonneg d (show 0 ≤ -b by omega)
    rw [Int.neg_tmod] at this
    omega
  generalize Int.tmod b d = m at *
  generalize Int.tdiv b d = q at *
  by_cases hm : m = 0
  · rw [if_pos hm] at hQ
    subst hQ
    have : b - Q * d = 0 := by rw [Int.mul_comm]; omega
    constructor <;> intro _ <;> omega
  rw [if_neg hm] at hQ
  by_cases hs : (decide (b < 0) != decide (d < 0)) = true
  · rw [if_pos hs] at hQ
    have e2 : b - Q * d = m + d := by rw [hQ, Int.sub_mul, Int.mul_comm q d]; omega
    rw [e2]
    have hs' : ¬ ((b < 0) ↔ (d < 0)) := by
      intro g
      simp only [bne_iff_ne, ne_eq, decide_eq_decide] at hs
      exact hs g
    constructor <;> intro _ <;> omega
  · rw [if_neg hs] at hQ
    have e2 : b - Q * d = m := by rw [hQ, Int.mul_comm q d]; omega
    rw [e2]
    have hs' : ((b < 0) ↔ (d < 0)) := by
      simp only [bne_iff_ne, ne_eq, decide_eq_decide, Classical.not_not] at hs
      exact hs
    constructor <;> intro _ <;> omega
/-- A product that comes back by division did not run over. -/
theorem mul_back {x y : Int} (hx : -9223372036854775808 ≤ x) (hx' : x ≤ 9223372036854775807) (hy : -9223372036854775808 ≤ y) (hy' : y ≤ 9223372036854775807) (h0 : y ≠ 0) (h : mulOk x y = true) : wrap64 (x * y) = x * y := by
  unfold mulOk at h
  simp only [Bool.and_eq_true, Bool.not_eq_true', Bool.and_eq_false_iff, beq_eq_false_iff_ne, beq_iff_eq] at h
  obtain ⟨⟨ha, hb⟩, hc⟩ := h
  obtain ⟨m, hm⟩ : ∃ m, m = wrap64 (x * y) := ⟨_, rfl⟩
  rw [← hm] at hc ⊢
  have mr : -9223372036854775808 ≤ m ∧ m ≤ 9223372036854775807 := by rw [hm]; unfold wrap64; omega
  obtain ⟨k, hk⟩ : ∃ k : Int, m = x * y - k * 18446744073709551616 := by
    rw [hm]
    refine ⟨(x * y - wrap64 (x * y)) / 18446744073709551616, ?_⟩
    generalize x * y = z
    unfold wrap64
    omega
  have e := td_tm m y
  have hlt : (Int.tmod m y).natAbs < y.natAbs := by
    rw [Int.natAbs_tmod]
    exact Nat.mod_lt _ (by omega)
  have ht : (Int.tdiv m y).natAbs ≤ m.natAbs := by
    rw [Int.natAbs_tdiv]
    exact Nat.div_le_self _ _
  generalize Int.tmod m y = r at *
  generalize hq : Int.tdiv m y = q at *
  have hqx : q = x ∨ (q = 9223372036854775808 ∧ x = -9223372036854775808) := by
    unfold wrap64 at hc
    omega
  have hk2 : m = y * x - k * 18446744073709551616 := by rw [Int.mul_comm y x]; exact hk
  rw [Int.mul_comm x y]
  clear hk hm hc
  rcases hqx with rfl | ⟨hq1, hx1⟩
  · have : r = -(k * 18446744073709551616) := by omega
    have : k = 0 := by omega
    omega
  · exfalso
    have hm2 : m = -9223372036854775808 := by omega
    have hy2 : y ≠ -1 := by
      rcases hb with g | g
      · exact g
      · exact absurd hx1 g
    rw [hq1] at e
    have : y = 1 ∨ y ≤ -2 ∨ 2 ≤ y := by omega
    omega
theorem j4_is (a b : Int) (s : ByteArray) (a' b' : Int) (s' : ByteArray) (b0 : -9223372036854775808 ≤ b) (b1 : b ≤ 9223372036854775807) (c0 : -9223372036854775808 ≤ b') (c1 : b' ≤ 9223372036854775807) (hs : s.size ≤ 1048576) (hs' : s'.size ≤ 1048576) : Ev (fun k => laws_FnReckon.j4 k false a b s a' b' s') true := by
  have hj := fun (q : Bool) (k : Nat) => (show laws_FnReckon.j4 (k + 1) q a b s a' b' s' = ite (q = true) none _ from rfl)
  refine Ev.step (fun k => (hj false k).trans (if_neg Bool.false_ne_true)) ?_
  refine Ev.bind (impl_reckon_is ⟨#[47]⟩ a b s a' b' s' hs) ?_
  have hop : (⟨#[47]⟩ : ByteArray).toList = [47] := by rw [toList_data]
  rw [hop]
  by_cases h1 : (reckT [47] (a, b, s) (a', b', s')).1 = 1
  case neg => exact ev_if_neg h1 (ev_some fun _ => rfl)
  refine ev_if_pos h1 ?_
  have hd : ∃ Q, reckT [47] (a, b, s) (a', b', s') = intT Q ∧ a = 1 ∧ a' = 1 ∧ b' ≠ 0 ∧ -9223372036854775808 ≤ Q ∧ Q ≤ 9223372036854775807 ∧ (Q = if Int.tmod b b' = 0 then Int.tdiv b b' else if (decide (b < 0) != decide (b' < 0)) = true then Int.tdiv b b' - 1 else Int.tdiv b b') := by
    unfold reckT at h1 ⊢
    rw [if_neg (by decide), if_neg (by decide)] at h1 ⊢
    by_cases hk : (a != a' || a == 0) = true
    · rw [if_pos hk] at h1
      exact absurd h1 (by decide)
    rw [if_neg hk, if_neg (by decide), if_neg (by decide), if_neg (by simp)] at h1 ⊢
    have ha' : a = a' := by simp at hk; exact hk.1
    by_cases ha : a = 1
    case neg =>
      rw [if_neg ha] at h1
      exact absurd h1 (by decide)
    rw [if_pos ha] at h1 ⊢
    unfold arithT at h1 ⊢
    rw [if_neg (by decide), if_neg (by decide), if_neg (by decide), if_pos rfl] at h1 ⊢
    by_cases hz : b' = 0
    · rw [if_pos hz] at h1
      exact absurd h1 (by decide)
    rw [if_neg hz] at h1 ⊢
    by_cases hm : (b == -9223372036854775808 && b' == -1) = true
    · rw [if_pos hm] at h1
      exact absurd h1 (by decide)
    rw [if_neg hm]
    have hq : (Int.tdiv b b').natAbs ≤ b.natAbs := by
      rw [Int.natAbs_tdiv]
      exact Nat.div_le_self _ _
    have hq1 : Int.tdiv b b' = 9223372036854775808 → False := fun g => by
      apply hm
      have e := td_tm b b'
      have hlt : (Int.tmod b b').natAbs < b'.natAbs := by
        rw [Int.natAbs_tmod]
        exact Nat.mod_lt _ (by omega)
      rw [g] at e
      have : b = -9223372036854775808 := by omega
      have : b' = -1 := by omega
      simp [*]
    have hqm : Int.tdiv b b' = -9223372036854775808 → Int.tmod b b' = 0 := fun g => by
      have e := td_tm b b'
      have hlt : (Int.tmod b b').natAbs < b'.natAbs := by
        rw [Int.natAbs_tmod]
        exact Nat.mod_lt _ (by omega)
      rw [g] at e
      omega
    have hq2 : Int.tdiv b b' ≠ 9223372036854775808 := hq1
    have qr : -9223372036854775808 ≤ Int.tdiv b b' ∧ Int.tdiv b b' ≤ 9223372036854775807 := by omega
    clear hq hq1 hq2
    by_cases ht : Int.tmod b b' = 0
    · rw [if_pos ht, if_pos ht]
      refine ⟨Int.tdiv b b', ?_, ha, ha' ▸ ha, hz, qr.1, qr.2, rfl⟩
      show intT (wrap64 (Int.tdiv b b')) = _
      rw [wrap_id qr.1 qr.2]
    rw [if_neg ht, if_neg ht]
    by_cases hsg : (decide (b < 0) != decide (b' < 0)) = true
    · rw [if_pos hsg, if_pos hsg]
      have : Int.tdiv b b' ≠ -9223372036854775808 := fun g => ht (hqm g)
      refine ⟨Int.tdiv b b' - 1, ?_, ha, ha' ▸ ha, hz, by omega, by omega, rfl⟩
      show intT (wrap64 (wrap64 (Int.tdiv b b') - 1)) = _
      rw [wrap_id (x := Int.tdiv b b') qr.1 qr.2, wrap_id (by omega) (by omega)]
    · rw [if_neg hsg, if_neg hsg]
      refine ⟨Int.tdiv b b', ?_, ha, ha' ▸ ha, hz, qr.1, qr.2, rfl⟩
      show intT (wrap64 (Int.tdiv b b')) = _
      rw [wrap_id qr.1 qr.2]
  obtain ⟨Q, e, rfl, rfl, hz, q0, q1, hQ⟩ := hd
  rw [e]
  refine Ev.bind (impl_reckon_is ⟨#[42]⟩ (intT Q).1 (intT Q).2.1 (intT Q).2.2 1 b' s' (show (0 : Nat) ≤ 1048576 by omega)) ?_
  have hop2 : (⟨#[42]⟩ : ByteArray).toList = [42] := by rw [toList_data]
  have hop3 : (⟨#[45]⟩ : ByteArray).toList = [45] := by rw [toList_data]
  rw [hop2]
  have ep : reckT [42] ((intT Q).1, (intT Q).2.1, (intT Q).2.2) (1, b', s') = arithT [42] Q b' := rfl
  rw [ep]
  refine Ev.bind (impl_reckon_is ⟨#[45]⟩ 1 b s (arithT [42] Q b').1 (arithT [42] Q b').2.1 (arithT [42] Q b').2.2 hs) ?_
  rw [hop3]
  by_cases hp : (arithT [42] Q b').1 = 1
  case neg => exact ev_if_neg hp (ev_some fun _ => rfl)
  refine ev_if_pos hp ?_
  have hP : arithT [42] Q b' = intT (Q * b') := by
    unfold arithT at hp ⊢
    rw [if_neg (by decide), if_neg (by decide), if_pos rfl] at hp ⊢
    by_cases hq0 : Q = 0
    · rw [if_pos hq0, hq0, Int.zero_mul]
    rw [if_neg hq0, if_neg hz] at hp ⊢
    by_cases hm : mulOk Q b' = true
    · rw [if_pos hm, mul_back q0 q1 c0 c1 hz hm]
    · rw [if_neg hm] at hp
      exact absurd hp (by decide)
  rw [hP]
  have fl := floor_left b b' hz Q hQ
  have er : reckT [45] (1, b, s) ((intT (Q * b')).1, (intT (Q * b')).2.1, (intT (Q * b')).2.2) = arithT [45] b (Q * b') := rfl
  rw [er]
  by_cases hr : (arithT [45] b (Q * b')).1 = 1
  case neg => exact ev_if_neg hr (ev_some fun _ => rfl)
  refine ev_if_pos hr ?_
  have hR : arithT [45] b (Q * b') = intT (wrap64 (b - Q * b')) := by
    unfold arithT at hr ⊢
    rw [if_neg (by decide), if_pos rfl] at hr ⊢
    by_cases g : (decide (wrap64 (b - Q * b') < b) != decide (Q * b' > 0)) = true
    · rw [if_pos g] at hr
      exact absurd hr (by decide)
    · rw [if_neg g]
  rw [hR]
  generalize Q * b' = P at *
  have hW : wrap64 (b - P) = b - P := by
    rcases Int.lt_trichotomy b' 0 with g | g | g
    · have := fl.2 g
      exact wrap_id (by omega) (by omega)
    · exact absurd g hz
    · have := fl.1 g
      exact wrap_id (by omega) (by omega)
  rw [hW]
  by_cases hb : b' > 0
  · have := fl.1 hb
    exact ev_if_pos hb (ev_if_pos (show b - P ≥ 0 by omega) (ev_if_pos (show b - P < b' by omega) (ev_some fun _ => rfl)))
  · have hb2 : b' < 0 := by omega
    have := fl.2 hb2
    exact ev_if_neg hb (ev_if_pos hb2 (ev_if_pos (show b - P ≤ 0 by omega) (ev_some fun _ => by
      show some (decide (b - P > b')) = some true
      rw [decide_eq_true (by omega)])))
theorem j3_is (a b : Int) (s : ByteArray) (a' b' : Int) (s' : ByteArray) (b0 : -9223372036854775808 ≤ b) (b1 : b ≤ 9223372036854775807) (c0 : -9223372036854775808 ≤ b') (c1 : b' ≤ 9223372036854775807) (hs : s.size ≤ 1048576) (hs' : s'.size ≤ 1048576) : Ev (fun k => laws_FnReckon.j3 k false a b s a' b' s') true := by
  have hj := fun (q : Bool) (k : Nat) => (show laws_FnReckon.j3 (k + 1) q a b s a' b' s' = ite (q = true) none _ from rfl)
  have j4 := j4_is a b s a' b' s' b0 b1 c0 c1 hs hs'
  refine Ev.step (fun k => (hj false k).trans (if_neg Bool.false_ne_true)) ?_
  refine Ev.bind (impl_reckon_is ⟨#[60]⟩ a b s a' b' s' hs) (Ev.bind (impl_reckon_is ⟨#[61]⟩ a b s a' b' s' hs) (Ev.bind (impl_reckon_is ⟨#[60]⟩ a' b' s' a b s hs') ?_))
  rw [show (⟨#[60]⟩ : ByteArray).toList = [60] from by rw [toList_data], show (⟨#[61]⟩ : ByteArray).toList = [61] from by rw [toList_data]]
  by_cases h : (reckT [60] (a, b, s) (a', b', s')).1 = 2
  · refine ev_if_pos h ?_
    rw [three_is h]
    exact j4
  · exact ev_if_neg h j4
theorem j2_is (a b : Int) (s : ByteArray) (a' b' : Int) (s' : ByteArray) (b0 : -9223372036854775808 ≤ b) (b1 : b ≤ 9223372036854775807) (c0 : -9223372036854775808 ≤ b') (c1 : b' ≤ 9223372036854775807) (hs : s.size ≤ 1048576) (hs' : s'.size ≤ 1048576) :
    Ev (fun k => laws_FnReckon.j2 k false a b s a' b' s' (logicT false (a, b, s) (a', b', s')).1 (logicT false (a, b, s) (a', b', s')).2.1 (logicT false (a, b, s) (a', b', s')).2.2) true := by
  have hj := fun (q : Bool) (k : Nat) => (show laws_FnReckon.j2 (k + 1) q a b s a' b' s' (logicT false (a, b, s) (a', b', s')).1 (logicT false (a, b, s) (a', b', s')).2.1 (logicT false (a, b, s) (a', b', s')).2.2 = ite (q = true) none _ from rfl)
  have j3 := j3_is a b s a' b' s' b0 b1 c0 c1 hs hs'
  refine Ev.step (fun k => (hj false k).trans (if_neg Bool.false_ne_true)) (ev_bind0 (specValueOk_is a b s) ?_)
  cases h1 : okV a b s.data.toList with
  | false => exact ev_if_neg (by simp) j3
  | true =>
    refine ev_if_pos rfl (ev_bind0 (specValueOk_is a' b' s') ?_)
    cases h2 : okV a' b' s'.data.toList with
    | false => exact ev_if_neg (by simp) j3
    | true =>
      refine ev_if_pos rfl ?_
      by_cases ha : a = 2
      case neg => exact ev_if_neg ha j3
      by_cases ha' : a' = 2
      case neg => exact ev_if_pos ha (ev_if_neg ha' j3)
      subst ha ha'
      have dm := deMorgan (b := b) (b' := b') (s := s) (s' := s') h1 h2
      refine ev_if_pos rfl (ev_if_pos rfl (ev_bind0 (implNot_is _ _ _) (ev_bind0 (implNot_is _ _ _) (ev_bind0 (implNot_is _ _ _) (Ev.bind (impl_reckon_is ⟨#[111, 114]⟩ _ _ _ _ _ _ ?_) ?_)))))
      · obtain ⟨hb, rfl⟩ := bool_of h1
        rcases hb with rfl | rfl <;> decide
      rw [show (⟨#[111, 114]⟩ : ByteArray).toList = [111, 114] from by rw [toList_data]]
      have ro : ∀ p q : Int × Int × ByteArray, reckT [111, 114] p q = logicT true p q := fun p q => by
        unfold reckT
        rw [if_neg (by decide), if_pos rfl]
      rw [ro]
      rw [show logicT true ((notT (2, b, s)).1, (notT (2, b, s)).2.1, (notT (2, b, s)).2.2) ((notT (2, b', s')).1, (notT (2, b', s')).2.1, (notT (2, b', s')).2.2) = notT ((logicT false (2, b, s) (2, b', s')).1, (logicT false (2, b, s) (2, b', s')).2.1, (logicT false (2, b, s) (2, b', s')).2.2) from dm.symm]
      simpa using j3
theorem j1_is (a b : Int) (s : ByteArray) (a' b' : Int) (s' : ByteArray) (b0 : -9223372036854775808 ≤ b) (b1 : b ≤ 9223372036854775807) (c0 : -9223372036854775808 ≤ b') (c1 : b' ≤ 9223372036854775807) (hs : s.size ≤ 1048576) (hs' : s'.size ≤ 1048576) :
    Ev (fun k => laws_FnReckon.j1 k false a b s a' b' s' (logicT false (a, b, s) (a', b', s')).1 (logicT false (a, b, s) (a', b', s')).2.1 (logicT false (a, b, s) (a', b', s')).2.2 (logicT true (a, b, s) (a', b', s')).1 (logicT true (a, b, s) (a', b', s')).2.1 (logicT true (a, b, s) (a', b', s')).2.2) true := by
  have hj := fun (q : Bool) (k : Nat) => (show laws_FnReckon.j1 (k + 1) q a b s a' b' s' (logicT false (a, b, s) (a', b', s')).1 (logicT false (a, b, s) (a', b', s')).2.1 (logicT false (a, b, s) (a', b', s')).2.2 (logicT true (a, b, s) (a', b', s')).1 (logicT true (a, b, s) (a', b', s')).2.1 (logicT true (a, b, s) (a', b', s')).2.2 = ite (q = true) none _ from rfl)
  have j2 := j2_is a b s a' b' s' b0 b1 c0 c1 hs hs'
  refine Ev.step (fun k => (hj false k).trans (if_neg Bool.false_ne_true)) (ev_bind0 (specValueOk_is a b s) ?_)
  cases h1 : okV a b s.data.toList with
  | false => exact ev_if_neg (by simp) j2
  | true =>
    refine ev_if_pos rfl (ev_bind0 (specValueOk_is a' b' s') ?_)
    cases h2 : okV a' b' s'.data.toList with
    | false => exact ev_if_neg (by simp) j2
    | true =>
      have ta : isT ((logicT false (a, b, s) (a', b', s')).1, (logicT false (a, b, s) (a', b', s')).2.1, (logicT false (a, b, s) (a', b', s')).2.2) = (isT (a, b, s) && isT (a', b', s')) := isT_and (x := (a, b, s)) (y := (a', b', s')) h1 h2
      have to_ : isT ((logicT true (a, b, s) (a', b', s')).1, (logicT true (a, b, s) (a', b', s')).2.1, (logicT true (a, b, s) (a', b', s')).2.2) = (isT (a, b, s) || isT (a', b', s')) := isT_or (x := (a, b, s)) (y := (a', b', s')) h1 h2
      refine ev_if_pos rfl (ev_bind0 (implIsTrue_is _ _ _) (ev_bind0 (implIsTrue_is _ _ _) ?_))
      rw [ta]
      cases t1 : isT (a, b, s) with
      | true =>
        refine ev_if_pos rfl (ev_bind0 (implIsTrue_is _ _ _) ?_)
        refine ev_if_neg (by simp) (ev_bind0 (implIsTrue_is _ _ _) (ev_bind0 (implIsTrue_is _ _ _) ?_))
        rw [to_, t1]
        exact ev_if_pos rfl j2
      | false =>
        refine ev_if_neg (by simp) (ev_if_neg (by simp) (ev_bind0 (implIsTrue_is _ _ _) (ev_bind0 (implIsTrue_is _ _ _) ?_)))
        rw [to_, t1]
        refine ev_if_neg (by simp) (ev_bind0 (implIsTrue_is _ _ _) ?_)
        rw [Bool.false_or, bne_self_eq_false]
        exact j2
theorem j0_is (a b : Int) (s : ByteArray) (a' b' : Int) (s' : ByteArray) (b0 : -9223372036854775808 ≤ b) (b1 : b ≤ 9223372036854775807) (c0 : -9223372036854775808 ≤ b') (c1 : b' ≤ 9223372036854775807) (hs : s.size ≤ 1048576) (hs' : s'.size ≤ 1048576) : Ev (fun k => laws_FnReckon.j0 k false a b s a' b' s') true := by
  have hj := fun (q : Bool) (k : Nat) => (show laws_FnReckon.j0 (k + 1) q a b s a' b' s' = ite (q = true) none _ from rfl)
  have j1 := j1_is a b s a' b' s' b0 b1 c0 c1 hs hs'
  have ra : ∀ p q : Int × Int × ByteArray, reckT [97, 110, 100] p q = logicT false p q := fun p q => by unfold reckT; rw [if_pos rfl]
  have ro : ∀ p q : Int × Int × ByteArray, reckT [111, 114] p q = logicT true p q := fun p q => by
    unfold reckT
    rw [if_neg (by decide), if_pos rfl]
  have i1 := impl_reckon_is ⟨#[97, 110, 100]⟩ a b s a' b' s' hs
  have i2 := impl_reckon_is ⟨#[111, 114]⟩ a b s a' b' s' hs
  have i3 := impl_reckon_is ⟨#[97, 110, 100]⟩ a' b' s' a b s hs'
  have i4 := impl_reckon_is ⟨#[111, 114]⟩ a' b' s' a b s hs'
  rw [show (⟨#[97, 110, 100]⟩ : ByteArray).toList = [97, 110, 100] from by rw [toList_data], ra] at i1 i3
  rw [show (⟨#[111, 114]⟩ : ByteArray).toList = [111, 114] from by rw [toList_data], ro] at i2 i4
  rw [logic_comm] at i3 i4
  refine Ev.step (fun k => (hj false k).trans (if_neg Bool.false_ne_true)) (Ev.bind i1 (Ev.bind i2 (Ev.bind i3 (ev_if_neg (by simp) (Ev.bind i4 ?_)))))
  simpa using j1
theorem drawReck_is (l : List Int) (hl : l.length ≤ 1048576) : ∃ op a b s a' b' s', Ev (fun k => spec_DrawReckon.f k l) (op, a, b, s, a', b', s') ∧ (-9223372036854775808 ≤ b ∧ b ≤ 9223372036854775807 ∧ s.size ≤ 100) ∧ (-9223372036854775808 ≤ b' ∧ b' ≤ 9223372036854775807 ∧ s'.size ≤ 100) := by
  obtain ⟨h, e⟩ := new_is l hl
  obtain ⟨op, i1, h1, e1, y0, g0, g1⟩ := pick_is l 0 h [(⟨#[43]⟩ : ByteArray), (⟨#[45]⟩ : ByteArray), (⟨#[42]⟩ : ByteArray), (⟨#[47]⟩ : ByteArray), (⟨#[61]⟩ : ByteArray), (⟨#[60]⟩ : ByteArray), (⟨#[126]⟩ : ByteArray), (⟨#[97, 110, 100]⟩ : ByteArray), (⟨#[111, 114]⟩ : ByteArray), (⟨#[120]⟩ : ByteArray)] (by decide) (by decide) hl (by decide)
  obtain ⟨a, b, s, i2, h2, e2, _, _, o3, o4, o5, g2, g3⟩ := any_is l i1 h1 g0 hl g1
  obtain ⟨a', b', s', i3, h3, e3, _, _, p3, p4, p5, g4, g5⟩ := any_is l i2 h2 g2 hl g3
  exact ⟨op, a, b, s, a', b', s', Ev.bind e (ev_bind0 e1 (Ev.bind e2 (Ev.bind e3 (ev_some fun _ => rfl)))), ⟨o3, o4, o5⟩, p3, p4, p5⟩
theorem drawNot_is (l : List Int) (hl : l.length ≤ 1048576) : ∃ a b s, Ev (fun k => spec_DrawNot.f k l) (a, b, s) := by
  obtain ⟨h, e⟩ := new_is l hl
  obtain ⟨a, b, s, i1, h1, e1, o1, o2, o3, o4, o5, g0, g1⟩ := any_is l 0 h (by decide) hl (by decide)
  exact ⟨a, b, s, Ev.bind e (Ev.bind e1 (ev_some fun _ => rfl))⟩
end Go.Proofs.Ythgdmdabdlgliaa.PFnReckon
