/- Plain lemmas on what the functions of the law FnExactEval compute: numbers and lists alone. -/
import Derived.Test.YthgdmdabdlgliaaPFnExactEvalx0
import Derived.Test.YthgdmdabdlgliaaPFnExactEvalx1
import Derived.Test.YthgdmdabdlgliaaPFnExactEvalx2
import Derived.Test.YthgdmdabdlgliaaPFnExactEvalx3
import Derived.Test.YthgdmdabdlgliaaPFnExactEvalx4
import Derived.Test.YthgdmdabdlgliaaPFnExactEvalx5
import Derived.Test.YthgdmdabdlgliaaPFnExactEvalx6
import Derived.Test.YthgdmdabdlgliaaPFnExactEvalx7
import Derived.Test.YthgdmdabdlgliaaPFnExactEvalx8
import Derived.Test.YthgdmdabdlgliaaPFnExactEvalx9
import Derived.Test.YthgdmdabdlgliaaPFnExactEvalx10
import Derived.Test.YthgdmdabdlgliaaPFnExactEvalx11
import Derived.Test.YthgdmdabdlgliaaPFnExactEvalx12
import Derived.Test.YthgdmdabdlgliaaPFnExactEvalx13
import Derived.Test.YthgdmdabdlgliaaPFnExactEvalx14
import Derived.Test.YthgdmdabdlgliaaPFnExactEvalx15
import Derived.Test.YthgdmdabdlgliaaPFnExactEvalx16
import Derived.Test.YthgdmdabdlgliaaOpen
import Derived.Test.YthgdmdabdlgliaaZFnExactEval
namespace Go.Proofs.Ythgdmdabdlgliaa.PFnExactEval
open Go.RowKit Go.Proofs.YthgdmdabdlgliaaW.PrintWords Go.Proofs.YthgdmdabdlgliaaW.PrintLast Go.Proofs.YthgdmdabdlgliaaW.PrintMore Go.Proofs.YthgdmdabdlgliaaOpen Go.Proofs.Ythgdmdabdlgliaa.ZFnExactEval
set_option linter.unusedVariables false
set_option linter.unusedSimpArgs false
/-- What is left of the bound behind a text. -/
theorem szValue_is (a b : Int) (s : ByteArray) (l : Int) (h0 : 0 ≤ l) (h1 : l ≤ 1048576) (hs : s.size ≤ 9223372036854775807) : laws_szValue.f a b s l = some (lft l s.size) := by
  unfold laws_szValue.f
  rw [wrap_id (x := l - (s.size : Int)) (by omega) (by omega)]
  by_cases h : l - (s.size : Int) < 0
  · rw [if_pos h, lft_of_gt (by omega)]
  · rw [if_neg h, lft_of_le (by omega)]
theorem cmpBytes_is (l m : List UInt8) : Go.Lib.compareBytes l m = if Op.bytesLess l m = true then -1 else if (Op.bytesLess l m || l == m) = true then 0 else 1 := by
  induction l generalizing m with
  | nil => cases m <;> simp [Go.Lib.compareBytes, Op.bytesLess]
  | cons a l ih =>
    cases m with
    | nil => simp [Go.Lib.compareBytes, Op.bytesLess]
    | cons b m =>
      simp only [Go.Lib.compareBytes, Op.bytesLess]
      by_cases h : a < b
      · simp [h]
      · by_cases h' : b < a
        · have hne : ¬ a = b := by rintro rfl; exact absurd h' h
          simp [h, h', hne]
        · have e : a = b := by
            apply UInt8.toNat_inj.1
            have h1 : ¬ a.toNat < b.toNat := h
            have h2 : ¬ b.toNat < a.toNat := h'
            omega
          subst e
          simp only [h, if_false, ih]
          simp
def cmpI (a b : Int) : Int := if a < b then -1 else if b < a then 1 else 0
theorem compare_int_is (a b : Int) : cmp_Compare_int.f a b = some (cmpI a b) := by
  unfold cmp_Compare_int.f cmp_isNaN_int.f cmpI
  simp only [Option.bind_some, bne_self_eq_false, Bool.false_eq_true, if_false, gt_iff_lt]
  by_cases h : a < b
  · simp [h]
  · by_cases h' : b < a <;> simp [h, h']
theorem or_three (k : Nat) (a b c : Int) : cmp_Or_int.f (k + 4) [a, b, c] = some (if a = 0 then (if b = 0 then c else b) else a) := by
  have w0 : wrap64 (0 + 1) = 1 := by unfold wrap64; omega
  have w1 : wrap64 (1 + 1) = 2 := by unfold wrap64; omega
  have w2 : wrap64 (2 + 1) = 3 := by unfold wrap64; omega
  unfold cmp_Or_int.f
  simp only [cmp_Or_int.l0, List.length_cons, List.length_nil, w0, w1, w2, rd]
  by_cases ha : a = 0
  · by_cases hb : b = 0
    · by_cases hc : c = 0
      · simp [ha, hb, hc]
      · simp [ha, hb, hc]
    · simp [ha, hb]
  · simp [ha]
theorem compareValue_is (k : Nat) (a b : Int) (s : ByteArray) (a' b' : Int) (s' : ByteArray) : impl_CompareValue.f (k + 4) a b s a' b' s' = some (cmpV a b s a' b' s') := by
  unfold impl_CompareValue.f strings_Compare.f bytealg_CompareString.f
  simp only [compare_int_is, Option.bind_some, or_three, cmpBytes_is]
  unfold cmpV cmpI
  have hd : ∀ z : ByteArray, z.toList = z.data.toList := fun z => ByteArray.toList_eq z
  rw [hd, hd]
  by_cases h1 : a < a'
  · simp [h1]
  · by_cases h2 : a' < a
    · simp [h1, h2]
    · by_cases h3 : b < b'
      · simp [h1, h2, h3]
      · by_cases h4 : b' < b
        · simp [h1, h2, h3, h4]
        · simp [h1, h2, h3, h4]
def wtV (x : S45) : Nat := x.f2.size
def wtVS (l : List S45) : Nat := l.length + (l.map wtV).sum
theorem szValueS_is (xs : List S45) (hn : xs.length ≤ 9223372036854775807) (hx : ∀ x ∈ xs, x.f2.size ≤ 9223372036854775807) (l : Int) (h0 : 0 ≤ l) (h1 : l ≤ 1048576) : Ev (fun k => laws_szValueS.f k xs l) (lft l (wtVS xs)) :=
  sz_list z45 laws_szValueS.f laws_szValueS.l0 (fun _ x l => laws_szValue.f x.f0 x.f1 x.f2 l) wtV (fun _ _ _ => rfl) (fun _ _ _ _ => rfl) xs hn (fun x hx' l h0 h1 => ev_some fun _ => szValue_is _ _ _ l h0 h1 (hx x hx')) l h0 h1
def toV (x : S45) : S25 := ⟨x.f0, x.f1, x.f2⟩
theorem toValueS_is (xs : List S45) (hn : xs.length ≤ 8796093022208) : Ev (fun k => laws_toValueS.f k xs) (xs.map toV) :=
  map_list z45 z25 laws_toValueS.f laws_toValueS.l0 (fun _ x => laws_toValue.f x.f0 x.f1 x.f2) (fun bt => (⟨bt.1, bt.2.1, bt.2.2⟩ : S25)) (fun x => (x.f0, x.f1, x.f2)) 8796093022208 (fun _ _ => rfl) (fun _ _ _ _ => rfl) xs hn (by omega) (fun x _ => ev_some fun _ => rfl)
theorem eqValue_refl (a b : Int) (s : ByteArray) : laws_eqValue.f a b s a b s = some true := by simp [laws_eqValue.f]
theorem eqValueS_refl (xs : List S25) (hn : xs.length ≤ 9223372036854775807) : Ev (fun k => laws_eqValueS.f k xs xs) true :=
  eq_list z25 laws_eqValueS.f laws_eqValueS.l0 (fun _ x y => laws_eqValue.f x.f0 x.f1 x.f2 y.f0 y.f1 y.f2) (fun _ _ _ => rfl) (fun _ _ _ _ => rfl) xs hn (fun x _ => ev_some fun _ => eqValue_refl _ _ _)
/-- Is a value right. -/
def okV (a b : Int) (s : List UInt8) : Bool := if a = 0 then (b == 0 && s.isEmpty) else if a = 1 then s.isEmpty else if a = 2 then (decide (0 ≤ b ∧ b ≤ 1) && s.isEmpty) else if a = 3 then (b == 0 && decide (s.length ≤ 100)) else false
theorem specValueOk_is (a b : Int) (s : ByteArray) : spec_ValueOk.f a b s = some (okV a b s.data.toList) := by
  unfold spec_ValueOk.f okV spec_l01In.f
  have he : (s.toList == ([] : List UInt8)) = s.data.toList.isEmpty := by rw [toList_data]; cases s.data.toList <;> rfl
  rw [he, size_data]
  by_cases h0 : a = 0
  · by_cases hb : b = 0 <;> simp [h0, hb]
  · by_cases h1 : a = 1
    · simp [h1]
    · by_cases h2 : a = 2
      · by_cases hb : 0 ≤ b
        · by_cases hb' : b ≤ 1 <;> simp [h2, hb, hb']
        · simp [h2, hb]
      · by_cases h3 : a = 3
        · by_cases hb : b = 0
          · simp [h3, hb]
            omega
          · simp [h3, hb]
        · simp [h0, h1, h2, h3]
theorem implValueOk_is (a b : Int) (s : ByteArray) : impl_ValueOk.f a b s = some (okV a b s.data.toList) := specValueOk_is a b s
def nullT : Int × Int × ByteArray := (0, 0, ⟨#[]⟩)
def intT (n : Int) : Int × Int × ByteArray := (1, n, ⟨#[]⟩)
def flagT (b : Bool) : Int × Int × ByteArray := if b = true then (2, 1, ⟨#[]⟩) else (2, 0, ⟨#[]⟩)
def eqT (x y : Int × Int × ByteArray) : Bool := x.1 == y.1 && (x.2.1 == y.2.1 && (x.2.2.toList == y.2.2.toList))
/-- and, or: o is whether it is or. -/
def logicT (o : Bool) (x y : Int × Int × ByteArray) : Int × Int × ByteArray :=
  if (eqT x (flagT o) || eqT y (flagT o)) = true then flagT o else if (eqT x (flagT (!o)) && eqT y (flagT (!o))) = true then flagT (!o) else nullT
def mulOk (x y : Int) : Bool := !(x == -1 && y == -9223372036854775808) && !(y == -1 && x == -9223372036854775808) && (wrap64 (Int.tdiv (wrap64 (x * y)) y) == x)
/-- The arithmetic of two whole numbers. -/
def arithT (op : List UInt8) (x y : Int) : Int × Int × ByteArray :=
  if op = [43] then (if (decide (wrap64 (x + y) > x) != decide (y > 0)) = true then nullT else intT (wrap64 (x + y)))
  else if op = [45] then (if (decide (wrap64 (x - y) < x) != decide (y > 0)) = true then nullT else intT (wrap64 (x - y)))
  else if op = [42] then (if x = 0 then intT 0 else if y = 0 then intT 0 else if mulOk x y = true then intT (wrap64 (x * y)) else nullT)
  else if op = [47] then (if y = 0 then nullT else if (x == -9223372036854775808 && y == -1) = true then nullT else if Int.tmod x y = 0 then intT (wrap64 (Int.tdiv x y)) else if (decide (x < 0) != decide (y < 0)) = true then intT (wrap64 (wrap64 (Int.tdiv x y) - 1)) else intT (wrap64 (Int.tdiv x y)))
  else nullT
def reckT (op : List UInt8) (x y : Int × Int × ByteArray) : Int × Int × ByteArray :=
  if op = [97, 110, 100] then logicT false x y else if op = [111, 114] then logicT true x y
  else if (x.1 != y.1 || x.1 == 0) = true then nullT
  else if op = [61] then flagT (cmpV x.1 x.2.1 x.2.2 y.1 y.2.1 y.2.2 == 0)
  else if op = [60] then flagT (decide (cmpV x.1 x.2.1 x.2.2 y.1 y.2.1 y.2.2 < 0))
  else if (op == [126] && x.1 == 3) = true then flagT (Lib.contains x.2.2.data.toList y.2.2.data.toList)
  else if x.1 = 1 then arithT op x.2.1 y.2.1 else nullT
theorem l01Bool_is (b : Bool) : spec_l01Bool.f b = some (flagT b) := by
  unfold spec_l01Bool.f flagT
  split <;> rfl
theorem l01Logic_is (k : Nat) (op : ByteArray) (a b : Int) (s : ByteArray) (a' b' : Int) (s' : ByteArray) : spec_l01Logic.f (k + 1) op a b s a' b' s' = some (logicT (op.toList == [111, 114]) (a, b, s) (a', b', s')) := by
  unfold spec_l01Logic.f
  rw [l01Bool_is, Option.bind_some, l01Bool_is, Option.bind_some, show (op.toList != ([111, 114] : List UInt8)) = !(op.toList == ([111, 114] : List UInt8)) from rfl]
  generalize (op.toList == ([111, 114] : List UInt8)) = o
  show (if eqT (a, b, s) (flagT o) = true then _ else spec_l01Logic.j0 (k + 1) (eqT (a', b', s') (flagT o)) _ _ _ _ _ _ _ _ _ _ _ _) = _
  have h : ∀ t, spec_l01Logic.j0 (k + 1) t a b s a' b' s' (flagT o).1 (flagT o).2.1 (flagT o).2.2 (flagT (!o)).1 (flagT (!o)).2.1 (flagT (!o)).2.2 = if t = true then some (flagT o) else if eqT (a, b, s) (flagT (!o)) = true then (if eqT (a', b', s') (flagT (!o)) = true then some (flagT (!o)) else some nullT) else some nullT := fun t => rfl
  rw [h, h]
  unfold logicT
  cases eqT (a, b, s) (flagT o) <;> cases eqT (a', b', s') (flagT o) <;> cases eqT (a, b, s) (flagT (!o)) <;> cases eqT (a', b', s') (flagT (!o)) <;> rfl
theorem l01Sum_is (x y : Int) : spec_l01Sum.f x y = some (if (decide (wrap64 (x + y) > x) != decide (y > 0)) = true then nullT else intT (wrap64 (x + y))) := by
  unfold spec_l01Sum.f spec_l01Int.f
  split <;> rfl
theorem l01Product_is (k : Nat) (x y : Int) : spec_l01Product.f (k + 1) x y = some (if x = 0 then intT 0 else if y = 0 then intT 0 else if mulOk x y = true then intT (wrap64 (x * y)) else nullT) := by
  unfold spec_l01Product.f
  by_cases hx : x = 0
  · rw [if_pos hx, if_pos hx]
    rfl
  rw [if_neg hx, if_neg hx]
  by_cases hy : y = 0
  · subst hy
    rfl
  rw [if_neg hy, show (y == 0) = false from beq_eq_false_iff_ne.mpr hy]
  unfold mulOk
  simp only [spec_l01Product.j0, spec_l01Int.f, Option.bind_some, if_neg hy]
  by_cases h1 : x = -1
  · by_cases h2 : y = -9223372036854775808
    · simp [h1, h2, nullT]
    · by_cases h3 : y = -1
      · simp [h1, h3, intT, nullT] <;> (split <;> rfl)
      · simp [h1, h2, h3, intT, nullT] <;> (split <;> rfl)
  · by_cases h3 : y = -1
    · by_cases h4 : x = -9223372036854775808
      · simp [h3, h4, nullT]
      · simp [h1, h3, h4, intT, nullT] <;> (split <;> rfl)
    · simp [h1, h3, intT, nullT] <;> (split <;> rfl)
theorem l01Quotient_is (k : Nat) (x y : Int) : spec_l01Quotient.f (k + 1) x y = some (if y = 0 then nullT else if (x == -9223372036854775808 && y == -1) = true then nullT else if Int.tmod x y = 0 then intT (wrap64 (Int.tdiv x y)) else if (decide (x < 0) != decide (y < 0)) = true then intT (wrap64 (wrap64 (Int.tdiv x y) - 1)) else intT (wrap64 (Int.tdiv x y))) := by
  have h : ∀ t, spec_l01Quotient.j0 (k + 1) x y t = if t = true then some nullT else if y = 0 then none else if Int.tmod x y = 0 then some (intT (wrap64 (Int.tdiv x y))) else if (decide (x < 0) != decide (y < 0)) = true then some (intT (wrap64 (wrap64 (Int.tdiv x y) - 1))) else some (intT (wrap64 (Int.tdiv x y))) := fun t => rfl
  unfold spec_l01Quotient.f
  rw [h, h, h]
  by_cases hy : y = 0
  · simp [hy]
  rw [if_neg hy, if_neg hy, if_neg hy]
  by_cases h1 : y = -1
  · rw [if_pos h1]
    by_cases h2 : x = -9223372036854775808
    · simp [h1, h2]
    · simp only [beq_eq_false_iff_ne.mpr h2, Bool.false_and]
      repeat' split
      all_goals first | rfl | simp_all
  · rw [if_neg h1]
    simp only [beq_eq_false_iff_ne.mpr h1, Bool.and_false]
    repeat' split
    all_goals first | rfl | simp_all
theorem l01Arith_is (k : Nat) (op : ByteArray) (x y : Int) (h0 : -9223372036854775808 ≤ x) (h1 : x ≤ 9223372036854775807) : spec_l01Arith.f (k + 1) op x y = some (arithT op.toList x y) := by
  unfold spec_l01Arith.f arithT
  rw [l01Sum_is, l01Product_is, l01Quotient_is]
  simp only [spec_l01Int.f, Option.bind_some]
  by_cases e1 : op.toList = ([43] : List UInt8)
  · rw [if_pos e1, if_pos e1]
    by_cases hy : y = 0
    · subst hy
      rw [if_pos rfl, show wrap64 (x + 0) = x by rw [Int.add_zero]; exact wrap_id h0 h1, if_neg (by simp)]
      rfl
    · rw [if_neg hy]
  rw [if_neg e1, if_neg e1]
  by_cases e2 : op.toList = ([45] : List UInt8)
  · rw [if_pos e2, if_pos e2]
    by_cases hy : y = 0
    · subst hy
      rw [show wrap64 (x - 0) = x by rw [Int.sub_zero]; exact wrap_id h0 h1, if_neg (by simp), if_neg (by simp)]
      rfl
    · rw [if_neg hy]
      split <;> rfl
  rw [if_neg e2, if_neg e2]
  by_cases e3 : op.toList = ([42] : List UInt8)
  · rw [if_pos e3, if_pos e3]
  rw [if_neg e3, if_neg e3]
  by_cases e4 : op.toList = ([47] : List UInt8)
  · rw [if_pos e4, if_pos e4]
  rw [if_neg e4, if_neg e4]
  rfl
def HoldsP (a b : ByteArray) (i : Nat) : Prop := ∃ j, i ≤ j ∧ j + b.size ≤ a.size ∧ (a.extract j (j + b.size)).toList = b.toList
theorem l01Holds_loop (a b : ByteArray) (ha : a.size ≤ 1048576) (hb : b.size ≤ 1048576) : ∀ (n i : Nat) (r : Bool), a.size + 1 - i = n → i ≤ a.size + 1 → (r = true ↔ HoldsP a b i) → Ev (fun k => spec_l01Holds.l0 k a b i) r := by
  intro n
  induction n with
  | zero =>
    intro i r h1 h2 hr
    have hw : wrap64 ((i : Int) + (b.size : Int)) = ((i + b.size : Nat) : Int) := by rw [wrap_id (by omega) (by omega)]; omega
    refine Ev.step (fun k => rfl) (ev_if_neg (by rw [hw]; omega) (ev_some fun _ => ?_))
    cases r with
    | false => rfl
    | true =>
      obtain ⟨j, j1, j2, _⟩ := hr.1 rfl
      omega
  | succ n ih =>
    intro i r h1 h2 hr
    have hw : wrap64 ((i : Int) + (b.size : Int)) = ((i + b.size : Nat) : Int) := by rw [wrap_id (by omega) (by omega)]; omega
    have hs : wrap64 ((i : Int) + 1) = ((i + 1 : Nat) : Int) := by rw [wrap_id (by omega) (by omega)]; omega
    by_cases hl : i + b.size ≤ a.size
    · refine Ev.step (fun k => rfl) (ev_if_pos (by rw [hw]; omega) (ev_if_pos (by omega) (ev_if_pos (by rw [hw]; omega) ?_)))
      rw [hw, hs]
      by_cases he : (a.extract i (i + b.size)).toList = b.toList
      · exact ev_if_pos he (ev_conv (ev_some fun _ => rfl) (hr.2 ⟨i, Nat.le_refl _, hl, he⟩).symm)
      · refine ev_if_neg he (ih (i + 1) r (by omega) (by omega) (hr.trans ⟨fun ⟨j, j1, j2, j3⟩ => ⟨j, ?_, j2, j3⟩, fun ⟨j, j1, j2, j3⟩ => ⟨j, by omega, j2, j3⟩⟩))
        by_cases e : j = i
        · exact absurd (e ▸ j3) he
        · omega
    · refine Ev.step (fun k => rfl) (ev_if_neg (by rw [hw]; omega) (ev_some fun _ => ?_))
      cases r with
      | false => rfl
      | true =>
        obtain ⟨j, j1, j2, _⟩ := hr.1 rfl
        omega
theorem extract_list (a : ByteArray) (i j : Nat) : (a.extract i j).toList = (a.data.toList.take j).drop i := by
  rw [ByteArray.toList_eq]
  simp [ByteArray.extract, ByteArray.copySlice, List.drop_take]
theorem contains_iff (a b : ByteArray) : Lib.contains a.data.toList b.data.toList = true ↔ HoldsP a b 0 := by
  have hz : ∀ c : ByteArray, c.data.toList.length = c.size := fun c => by simp
  have occ : ∀ j, Lib.occAt a.data.toList b.data.toList j = true ↔ (a.data.toList.drop j).take b.size = b.data.toList := fun j => by
    unfold Lib.occAt
    rw [List.isPrefixOf_iff_prefix, List.prefix_iff_eq_take, hz]
    exact eq_comm
  have ext : ∀ j, (a.extract j (j + b.size)).toList = (a.data.toList.drop j).take b.size := fun j => by
    rw [extract_list, List.drop_take]
    congr 1
    omega
  unfold Lib.contains HoldsP
  rw [decide_eq_true_eq]
  rcases Lib.index_spec a.data.toList b.data.toList with ⟨h1, h2⟩ | ⟨i, h1, h2, h3, _⟩
  · rw [h1]
    refine ⟨fun h => by omega, fun ⟨j, _, j2, j3⟩ => ?_⟩
    have := h2 j (by rw [hz]; omega)
    rw [ext, ByteArray.toList_eq] at j3
    rw [(occ j).2 j3] at this
    cases this
  · rw [h1]
    refine ⟨fun _ => ⟨i, Nat.zero_le _, ?_, ?_⟩, fun _ => by omega⟩
    · have h4 := congrArg List.length ((occ i).1 h3)
      rw [List.length_take, List.length_drop, hz, hz] at h4
      rw [hz] at h2
      omega
    · rw [ext, ByteArray.toList_eq]
      exact (occ i).1 h3
theorem l01Holds_is (a b : ByteArray) (ha : a.size ≤ 1048576) (hb : b.size ≤ 1048576) : Ev (fun k => spec_l01Holds.f k a b) (Lib.contains a.data.toList b.data.toList) :=
  l01Holds_loop a b ha hb (a.size + 1) 0 _ rfl (Nat.zero_le _) (contains_iff a b)
theorem ev_shift {α : Type} {g : Nat → Option α} {r : α} (n : Nat) (h : ∀ k, g (k + n) = some r) : Ev g r := ⟨n, fun k hk => by
  obtain ⟨m, rfl⟩ : ∃ m, k = m + n := ⟨k - n, by omega⟩
  exact h m⟩
theorem spec_reckon_is (op : ByteArray) (a b : Int) (s : ByteArray) (a' b' : Int) (s' : ByteArray) (h0 : -9223372036854775808 ≤ b) (h1 : b ≤ 9223372036854775807) (hs : s.size ≤ 1048576) (hs' : s'.size ≤ 1048576) : Ev (fun k => spec_Reckon.f k op a b s a' b' s') (reckT op.toList (a, b, s) (a', b', s')) := by
  unfold spec_Reckon.f reckT
  have logic : ∀ o, (op.toList == ([111, 114] : List UInt8)) = o → Ev (fun k => spec_l01Logic.f k op a b s a' b' s') (logicT o (a, b, s) (a', b', s')) := fun o ho => ev_shift 1 fun k => by rw [l01Logic_is, ho]
  by_cases e1 : op.toList = ([97, 110, 100] : List UInt8)
  · rw [if_pos e1]
    refine ev_if_pos e1 (Ev.step (fun k => rfl) (Ev.bind (logic false (by rw [e1]; rfl)) (ev_some fun _ => rfl)))
  rw [if_neg e1]
  refine ev_if_neg e1 (Ev.step (fun k => rfl) ?_)
  by_cases e2 : op.toList = ([111, 114] : List UInt8)
  · rw [if_pos e2]
    exact ev_if_pos (beq_iff_eq.mpr e2) (Ev.bind (logic true (beq_iff_eq.mpr e2)) (ev_some fun _ => rfl))
  rw [if_neg e2]
  refine ev_if_neg (by simpa using e2) ?_
  have arith : Ev (fun k => spec_l01Arith.f k op b b') (arithT op.toList b b') := ev_shift 1 fun k => l01Arith_is k op b b' h0 h1
  have tail : ∀ t : Bool, (t = (op.toList == ([126] : List UInt8) && a == 3)) → Ev (fun k => spec_Reckon.j2 k op t a b s a' b' s') (if (op.toList == ([126] : List UInt8) && a == 3) = true then flagT (Lib.contains s.data.toList s'.data.toList) else if a = 1 then arithT op.toList b b' else nullT) := by
    intro t ht
    rw [← ht]
    refine Ev.step (fun k => rfl) ?_
    by_cases hb : t = true
    · rw [if_pos hb]
      exact ev_if_pos hb (Ev.bind (l01Holds_is s s' hs hs') (ev_bind0 (l01Bool_is _) (ev_some fun _ => rfl)))
    · rw [if_neg hb]
      refine ev_if_neg hb ?_
      by_cases ha : a = 1
      · rw [if_pos ha]
        exact ev_if_pos ha (Ev.bind arith (ev_some fun _ => rfl))
      · rw [if_neg ha]
        exact ev_if_neg ha (ev_some fun _ => rfl)
  have mid : ∀ t : Bool, t = (a != a' || a == 0) → Ev (fun k => spec_Reckon.j1 k op t a b s a' b' s') (if (a != a' || a == 0) = true then nullT else if op.toList = [61] then flagT (cmpV a b s a' b' s' == 0) else if op.toList = [60] then flagT (decide (cmpV a b s a' b' s' < 0)) else if (op.toList == [126] && a == 3) = true then flagT (Lib.contains s.data.toList s'.data.toList) else if a = 1 then arithT op.toList b b' else nullT) := by
    intro t ht
    rw [← ht]
    refine Ev.step (fun k => rfl) ?_
    by_cases hb : t = true
    · rw [if_pos hb]
      exact ev_if_pos hb (ev_some fun _ => rfl)
    · rw [if_neg hb]
      refine ev_if_neg hb ?_
      by_cases e3 : op.toList = ([61] : List UInt8)
      · rw [if_pos e3]
        exact ev_if_pos e3 (ev_bind0 rfl (ev_bind0 (l01Bool_is _) (ev_some fun _ => rfl)))
      rw [if_neg e3]
      refine ev_if_neg e3 ?_
      by_cases e4 : op.toList = ([60] : List UInt8)
      · rw [if_pos e4]
        exact ev_if_pos e4 (ev_bind0 rfl (ev_bind0 (l01Bool_is _) (ev_some fun _ => rfl)))
      rw [if_neg e4]
      refine ev_if_neg e4 ?_
      by_cases e5 : op.toList = ([126] : List UInt8)
      · exact ev_if_pos e5 (tail _ (by rw [e5]; rfl))
      · exact ev_if_neg e5 (tail _ (by rw [show (op.toList == ([126] : List UInt8)) = false from beq_eq_false_iff_ne.mpr e5]; rfl))
  by_cases e : a = a'
  · exact ev_if_pos e (mid _ (by rw [show (a != a') = false by simpa using e]; rfl))
  · exact ev_if_neg e (mid _ (by rw [show (a != a') = true by simpa using e]; rfl))
theorem flag_is (b : Bool) : impl_flag.f b = some (flagT b) := by
  unfold impl_flag.f flagT
  split <;> rfl
theorem decide_is (k : Nat) (a b : Int) (s : ByteArray) (a' b' : Int) (s' : ByteArray) (o : Bool) : impl_decide.f (k + 2) a b s a' b' s' o = some (logicT o (a, b, s) (a', b', s')) := by
  have h1 : ∀ t, impl_decide.j1 (k + 1) o t = if t = true then some (flagT (!o)) else some nullT := fun t => by
    rw [impl_decide.j1, flag_is]
    rfl
  have h0 : ∀ t, impl_decide.j0 (k + 2) o t a b s a' b' s' = if t = true then some (flagT o) else if eqT (a, b, s) (flagT (!o)) = true then (if eqT (a', b', s') (flagT (!o)) = true then some (flagT (!o)) else some nullT) else some nullT := fun t => by
    rw [impl_decide.j0, flag_is, flag_is]
    simp only [Option.bind_some, h1]
    rfl
  unfold impl_decide.f
  rw [flag_is, Option.bind_some, Option.bind_some, h0, h0]
  show (if eqT (a, b, s) (flagT o) = true then _ else if eqT (a', b', s') (flagT o) = true then _ else _) = _
  unfold logicT
  cases eqT (a, b, s) (flagT o) <;> cases eqT (a', b', s') (flagT o) <;> cases eqT (a, b, s) (flagT (!o)) <;> cases eqT (a', b', s') (flagT (!o)) <;> rfl
theorem beq_bne (p q : Bool) (x y : Int × Int × ByteArray) : (if (p == q) = true then x else y) = if (p != q) = true then y else x := by
  cases p <;> cases q <;> rfl
theorem count_is (k : Nat) (op : ByteArray) (x y : Int) (hop : op.toList = [43] ∨ op.toList = [45] ∨ op.toList = [42] ∨ op.toList = [47]) : ∃ n ok, impl_count.f (k + 1) op x y = some (n, ok) ∧ (if ok = true then intT n else nullT) = arithT op.toList x y := by
  have hj : ∀ t, impl_count.j0 (k + 1) x y t = if t = true then some (0, false) else (if y = 0 then none else (if (Int.tmod x y) = 0 then (some (wrap64 (Int.tdiv x y), true)) else (if ((decide (x < 0)) != (decide (y < 0))) = true then (some (wrap64 ((wrap64 (Int.tdiv x y)) - 1), true)) else (some (wrap64 (Int.tdiv x y), true))))) := fun t => rfl
  unfold impl_count.f arithT
  by_cases e1 : op.toList = ([43] : List UInt8)
  · rw [if_pos e1, if_pos e1]
    exact ⟨_, _, rfl, beq_bne _ _ _ _⟩
  rw [if_neg e1, if_neg e1]
  by_cases e2 : op.toList = ([45] : List UInt8)
  · rw [if_pos e2, if_pos e2]
    exact ⟨_, _, rfl, beq_bne _ _ _ _⟩
  rw [if_neg e2, if_neg e2]
  by_cases e3 : op.toList = ([42] : List UInt8)
  · rw [if_pos e3, if_pos e3]
    by_cases hx : x = 0
    · rw [if_pos hx, if_pos hx]
      exact ⟨_, _, rfl, rfl⟩
    rw [if_neg hx, if_neg hx]
    by_cases hy : y = 0
    · rw [if_pos hy, if_pos hy]
      exact ⟨_, _, rfl, rfl⟩
    rw [if_neg hy, if_neg hy]
    unfold mulOk
    by_cases hq : wrap64 (Int.tdiv (wrap64 (x * y)) y) = x
    case neg =>
      rw [if_neg hq, show (wrap64 (Int.tdiv (wrap64 (x * y)) y) == x) = false from beq_eq_false_iff_ne.mpr hq, Bool.and_false]
      exact ⟨_, _, rfl, rfl⟩
    rw [if_pos hq, show (wrap64 (Int.tdiv (wrap64 (x * y)) y) == x) = true from beq_iff_eq.mpr hq, Bool.and_true]
    by_cases h1 : x = -1
    · rw [if_pos h1, show (x == -1) = true from beq_iff_eq.mpr h1, Bool.true_and]
      by_cases h2 : y = -9223372036854775808
      · rw [if_pos h2, show (y == -9223372036854775808) = true from beq_iff_eq.mpr h2]
        exact ⟨_, _, rfl, rfl⟩
      · rw [if_neg h2, show (y == -9223372036854775808) = false from beq_eq_false_iff_ne.mpr h2]
        by_cases h3 : y = -1
        · rw [if_pos h3, show (y == -1) = true from beq_iff_eq.mpr h3]
          exact ⟨_, _, rfl, rfl⟩
        · rw [if_neg h3, show (y == -1) = false from beq_eq_false_iff_ne.mpr h3]
          exact ⟨_, _, rfl, rfl⟩
    · rw [if_neg h1, show (x == -1) = false from beq_eq_false_iff_ne.mpr h1]
      by_cases h3 : y = -1
      · rw [if_pos h3, show (y == -1) = true from beq_iff_eq.mpr h3]
        exact ⟨_, _, rfl, rfl⟩
      · rw [if_neg h3, show (y == -1) = false from beq_eq_false_iff_ne.mpr h3]
        exact ⟨_, _, rfl, rfl⟩
  have e4 : op.toList = ([47] : List UInt8) := hop.resolve_left e1 |>.resolve_left e2 |>.resolve_left e3
  rw [if_neg e3, if_neg e3, if_pos e4]
  by_cases hy : y = 0
  · rw [if_pos hy, hj, if_pos rfl, if_pos hy]
    exact ⟨_, _, rfl, rfl⟩
  have hj' : ∀ t, impl_count.j0 (k + 1) x y t = if t = true then some (0, false) else (if (Int.tmod x y) = 0 then (some (wrap64 (Int.tdiv x y), true)) else (if ((decide (x < 0)) != (decide (y < 0))) = true then (some (wrap64 ((wrap64 (Int.tdiv x y)) - 1), true)) else (some (wrap64 (Int.tdiv x y), true)))) := fun t => by rw [hj, if_neg hy]
  rw [if_neg hy, if_neg hy]
  have tail : ∃ n ok, (if (Int.tmod x y) = 0 then (some (wrap64 (Int.tdiv x y), true)) else (if ((decide (x < 0)) != (decide (y < 0))) = true then (some (wrap64 ((wrap64 (Int.tdiv x y)) - 1), true)) else (some (wrap64 (Int.tdiv x y), true)))) = some (n, ok) ∧ (if ok = true then intT n else nullT) = if Int.tmod x y = 0 then intT (wrap64 (Int.tdiv x y)) else if (decide (x < 0) != decide (y < 0)) = true then intT (wrap64 (wrap64 (Int.tdiv x y) - 1)) else intT (wrap64 (Int.tdiv x y)) := by
    by_cases h1 : Int.tmod x y = 0
    · rw [if_pos h1, if_pos h1]
      exact ⟨_, _, rfl, rfl⟩
    · rw [if_neg h1, if_neg h1]
      by_cases h2 : (decide (x < 0) != decide (y < 0)) = true
      · rw [if_pos h2, if_pos h2]
        exact ⟨_, _, rfl, rfl⟩
      · rw [if_neg h2, if_neg h2]
        exact ⟨_, _, rfl, rfl⟩
  by_cases h1 : x = -9223372036854775808
  · rw [if_pos h1, hj', show (x == -9223372036854775808) = true from beq_iff_eq.mpr h1, Bool.true_and]
    by_cases h2 : (y == -1) = true
    · rw [if_pos h2, if_pos h2]
      exact ⟨_, _, rfl, rfl⟩
    · rw [if_neg h2, if_neg h2]
      exact tail
  · rw [if_neg h1, hj', show (x == -9223372036854775808) = false from beq_eq_false_iff_ne.mpr h1, Bool.false_and, if_neg (show ¬ (false = true) by simp), if_neg (show ¬ (false = true) by simp)]
    exact tail
theorem impl_reckon_is (op : ByteArray) (a b : Int) (s : ByteArray) (a' b' : Int) (s' : ByteArray) (hs : s.size ≤ 1048576) : Ev (fun k => impl_Reckon.f k op a b s a' b' s') (reckT op.toList (a, b, s) (a', b', s')) := by
  have cmp : Ev (fun k => impl_CompareValue.f k a b s a' b' s') (cmpV a b s a' b' s') := ev_shift 4 fun k => compareValue_is k a b s a' b' s'
  have null : Ev (fun _ : Nat => (impl_null.f).bind fun bt => some (bt.1, bt.2.1, bt.2.2)) nullT := ev_some fun _ => rfl
  have flg : ∀ t : Bool, Ev (fun _ : Nat => (impl_flag.f t).bind fun bt => some (bt.1, bt.2.1, bt.2.2)) (flagT t) := fun t => ev_bind0 (flag_is t) (ev_some fun _ => rfl)
  have other : (op.toList ≠ [43] ∧ op.toList ≠ [45] ∧ op.toList ≠ [42] ∧ op.toList ≠ [47]) → Ev (fun k => impl_Reckon.j0 k op op false a b s a' b' s') (reckT op.toList (a, b, s) (a', b', s')) := by
    rintro ⟨n1, n2, n3, n4⟩
    have comp : ∀ t : Bool, t = (a != a' || a == 0) → (op.toList = [61] ∨ op.toList = [60]) → Ev (fun k => impl_Reckon.j3 k op t a b s a' b' s') (reckT op.toList (a, b, s) (a', b', s')) := by
      intro t ht ho
      unfold reckT
      rw [if_neg (by rcases ho with h | h <;> rw [h] <;> decide), if_neg (by rcases ho with h | h <;> rw [h] <;> decide)]
      show Ev _ (if (a != a' || a == 0) = true then _ else _)
      rw [← ht]
      refine Ev.step (fun k => rfl) ?_
      by_cases hb : t = true
      · rw [if_pos hb]
        exact ev_if_pos hb null
      rw [if_neg hb]
      refine ev_if_neg hb (Ev.bind cmp ?_)
      by_cases e3 : op.toList = ([61] : List UInt8)
      · refine ev_conv (r := flagT (cmpV a b s a' b' s' == 0)) (ev_if_pos e3 ?_) (if_pos e3).symm
        by_cases hc : cmpV a b s a' b' s' = 0
        · refine ev_if_pos hc (ev_conv (flg true) ?_)
          rw [hc]
          rfl
        · refine ev_if_neg hc (ev_if_neg (show ¬ op.toList = ([60] : List UInt8) by rw [e3]; decide) (ev_conv (flg false) ?_))
          rw [show (cmpV a b s a' b' s' == 0) = false from beq_eq_false_iff_ne.mpr hc]
      · exact ev_conv (r := flagT (decide (cmpV a b s a' b' s' < 0))) (ev_if_neg e3 (ev_if_pos (ho.resolve_left e3) (flg _))) ((if_neg e3).trans (if_pos (ho.resolve_left e3))).symm
    have comp' : (op.toList = [61] ∨ op.toList = [60]) → Ev (fun k => impl_Reckon.j2 k op op true a b s a' b' s') (reckT op.toList (a, b, s) (a', b', s')) := by
      intro ho
      have hj : ∀ k, impl_Reckon.j2 (k + 1) op op true a b s a' b' s' = if a = a' then impl_Reckon.j3 k op (a == 0) a b s a' b' s' else impl_Reckon.j3 k op true a b s a' b' s' := fun _ => rfl
      refine Ev.step hj ?_
      by_cases e : a = a'
      · exact ev_if_pos e (comp _ (by rw [show (a != a') = false by simpa using e]; rfl) ho)
      · exact ev_if_neg e (comp _ (by rw [show (a != a') = true by simpa using e]; rfl) ho)
    have hj : ∀ k, impl_Reckon.j0 (k + 1) op op false a b s a' b' s' = if op.toList = ([61] : List UInt8) then impl_Reckon.j2 k op op (op.toList == ([61] : List UInt8)) a b s a' b' s' else impl_Reckon.j2 k op op (op.toList == ([60] : List UInt8)) a b s a' b' s' := fun _ => rfl
    refine Ev.step hj ?_
    by_cases e3 : op.toList = ([61] : List UInt8)
    · refine ev_if_pos e3 ?_
      rw [show (op.toList == ([61] : List UInt8)) = true from beq_iff_eq.mpr e3]
      exact comp' (.inl e3)
    refine ev_if_neg e3 ?_
    by_cases e4 : op.toList = ([60] : List UInt8)
    · rw [show (op.toList == ([60] : List UInt8)) = true from beq_iff_eq.mpr e4]
      exact comp' (.inr e4)
    rw [show (op.toList == ([60] : List UInt8)) = false from beq_eq_false_iff_ne.mpr e4]
    have hj2 : ∀ k, impl_Reckon.j2 (k + 1) op op false a b s a' b' s' = if op.toList = ([126] : List UInt8) then (if a = 3 then (impl_Reckon.j4 k (a' != 3) a b s a' b' s') else (impl_Reckon.j4 k true a b s a' b' s')) else (if op.toList = ([97, 110, 100] : List UInt8) then ((impl_decide.f k a b s a' b' s' false).bind fun bt => (some (bt.1, bt.2.1, bt.2.2))) else (if op.toList = ([111, 114] : List UInt8) then ((impl_decide.f k a b s a' b' s' true).bind fun bt => (some (bt.1, bt.2.1, bt.2.2))) else ((impl_null.f).bind fun bt => (some (bt.1, bt.2.1, bt.2.2))))) := fun _ => rfl
    have logic : ∀ o, Ev (fun k => (impl_decide.f k a b s a' b' s' o).bind fun bt => some (bt.1, bt.2.1, bt.2.2)) (logicT o (a, b, s) (a', b', s')) := fun o => ev_shift 2 fun k => by rw [decide_is]; rfl
    by_cases e5 : op.toList = ([126] : List UInt8)
    · have hr : reckT op.toList (a, b, s) (a', b', s') = if (a != a' || a == 0) = true then nullT else if (a == 3) = true then flagT (Lib.contains s.data.toList s'.data.toList) else if a = 1 then nullT else nullT := by
        unfold reckT
        rw [e5]
        rfl
      rw [hr]
      refine Ev.step hj2 (ev_if_pos e5 ?_)
      have h4 : ∀ t k, impl_Reckon.j4 (k + 1) t a b s a' b' s' = if t = true then ((impl_null.f).bind fun bt => (some (bt.1, bt.2.1, bt.2.2))) else ((strings_Contains.f s s').bind fun t => ((impl_flag.f t).bind fun bt => (some (bt.1, bt.2.1, bt.2.2)))) := fun _ _ => rfl
      by_cases ha : a = 3
      · by_cases ha' : a' = 3
        · rw [if_neg (show ¬ (a != a' || a == 0) = true by simp [ha, ha']), if_pos (show (a == 3) = true from beq_iff_eq.mpr ha)]
          refine ev_if_pos ha (Ev.step (h4 _) (ev_if_neg (by simp [ha']) (ev_bind0 (a := Lib.contains s.data.toList s'.data.toList) ?_ (flg _))))
          unfold strings_Contains.f
          rw [if_pos (by omega)]
        · rw [if_pos (show (a != a' || a == 0) = true by simp [ha]; omega)]
          exact ev_if_pos ha (Ev.step (h4 _) (ev_if_pos (by simpa using ha') null))
      · refine ev_if_neg ha (Ev.step (h4 _) (ev_conv (ev_if_pos rfl null) ?_))
        rw [if_neg (show ¬ (a == 3) = true by simpa using ha)]
        split
        · rfl
        · split <;> rfl
    by_cases e1 : op.toList = ([97, 110, 100] : List UInt8)
    · exact ev_conv (Ev.step hj2 (ev_if_neg e5 (ev_if_pos e1 (logic false)))) (by unfold reckT; rw [if_pos e1])
    by_cases e2 : op.toList = ([111, 114] : List UInt8)
    · exact ev_conv (Ev.step hj2 (ev_if_neg e5 (ev_if_neg e1 (ev_if_pos e2 (logic true))))) (by unfold reckT; rw [if_neg e1, if_pos e2])
    refine ev_conv (Ev.step hj2 (ev_if_neg e5 (ev_if_neg e1 (ev_if_neg e2 null)))) ?_
    unfold reckT
    rw [if_neg e1, if_neg e2, if_neg e3, if_neg e4, show (op.toList == ([126] : List UInt8)) = false from beq_eq_false_iff_ne.mpr e5, Bool.false_and, if_neg (show ¬ (false = true) by simp)]
    unfold arithT
    rw [if_neg n1, if_neg n2, if_neg n3, if_neg n4]
    split
    · rfl
    · split <;> rfl
  have arith : (op.toList = [43] ∨ op.toList = [45] ∨ op.toList = [42] ∨ op.toList = [47]) → Ev (fun k => impl_Reckon.j0 k op op true a b s a' b' s') (reckT op.toList (a, b, s) (a', b', s')) := by
    intro ho
    have hr : reckT op.toList (a, b, s) (a', b', s') = if (a != a' || a == 0) = true then nullT else if a = 1 then arithT op.toList b b' else nullT := by
      unfold reckT
      rcases ho with h | h | h | h <;> rw [h] <;> rfl
    rw [hr]
    have hj : ∀ k, impl_Reckon.j0 (k + 1) op op true a b s a' b' s' = if a = 1 then impl_Reckon.j1 k op (a' != 1) a b s a' b' s' else impl_Reckon.j1 k op true a b s a' b' s' := fun _ => rfl
    have h1 : ∀ t k, impl_Reckon.j1 (k + 1) op t a b s a' b' s' = if t = true then ((impl_null.f).bind fun bt => (some (bt.1, bt.2.1, bt.2.2))) else ((impl_count.f k op b b').bind fun bt => (if bt.2 = true then ((impl_number.f bt.1).bind fun bt => (some (bt.1, bt.2.1, bt.2.2))) else ((impl_null.f).bind fun bt => (some (bt.1, bt.2.1, bt.2.2))))) := fun _ _ => rfl
    refine Ev.step hj ?_
    by_cases ha : a = 1
    · refine ev_if_pos ha (Ev.step (h1 _) ?_)
      by_cases ha' : a' = 1
      · rw [if_neg (show ¬ (a != a' || a == 0) = true by simp [ha, ha']), if_pos ha]
        refine ev_if_neg (by simp [ha']) (ev_shift 1 fun k => ?_)
        obtain ⟨n, ok, hc, he⟩ := count_is k op b b' ho
        rw [hc, Option.bind_some, ← he]
        cases ok <;> rfl
      · rw [if_pos (show (a != a' || a == 0) = true by simp [ha]; omega)]
        exact ev_if_pos (by simpa using ha') null
    · refine ev_conv (ev_if_neg ha (Ev.step (h1 _) (ev_if_pos rfl null))) ?_
      rw [if_neg ha]
      split <;> rfl
  unfold impl_Reckon.f
  by_cases e1 : op.toList = ([43] : List UInt8)
  · refine ev_if_pos e1 ?_
    rw [show (op.toList == ([43] : List UInt8)) = true from beq_iff_eq.mpr e1]
    exact arith (.inl e1)
  refine ev_if_neg e1 ?_
  by_cases e2 : op.toList = ([45] : List UInt8)
  · refine ev_if_pos e2 ?_
    rw [show (op.toList == ([45] : List UInt8)) = true from beq_iff_eq.mpr e2]
    exact arith (.inr (.inl e2))
  refine ev_if_neg e2 ?_
  by_cases e3 : op.toList = ([42] : List UInt8)
  · refine ev_if_pos e3 ?_
    rw [show (op.toList == ([42] : List UInt8)) = true from beq_iff_eq.mpr e3]
    exact arith (.inr (.inr (.inl e3)))
  refine ev_if_neg e3 ?_
  by_cases e4 : op.toList = ([47] : List UInt8)
  · rw [show (op.toList == ([47] : List UInt8)) = true from beq_iff_eq.mpr e4]
    exact arith (.inr (.inr (.inr e4)))
  · rw [show (op.toList == ([47] : List UInt8)) = false from beq_eq_false_iff_ne.mpr e4]
    exact other ⟨e1, e2, e3, e4⟩
/-! #### expressions -/
def okEN : Nat → S48 → Prop
  | 0, _ => False
  | n + 1, x => x.f2.f2.size ≤ 9223372036854775807 ∧ x.f3.size ≤ 9223372036854775807 ∧ x.f4.length ≤ 9223372036854775807 ∧ ∀ y ∈ x.f4, okEN n y
def wtEN : Nat → S48 → Nat
  | 0, _ => 0
  | n + 1, x => x.f2.f2.size + (x.f3.size + (x.f4.length + (x.f4.map (wtEN n)).sum))
theorem szExp_is : ∀ (n : Nat) (x : S48), okEN n x → ∃ K, ∀ k, K ≤ k → ∀ l, 0 ≤ l → l ≤ 1048576 → laws_szExp.f k x.f0 x.f1 x.f2.f0 x.f2.f1 x.f2.f2 x.f3 x.f4 l = some (lft l (wtEN n x))
  | 0, _, h => h.elim
  | n + 1, x, h => by
    obtain ⟨h1, h2, h3, h4⟩ := h
    obtain ⟨K, hK⟩ := ev_all (xs := x.f4) (P := fun k y => ∀ l, 0 ≤ l → l ≤ 1048576 → laws_szExp.f k y.f0 y.f1 y.f2.f0 y.f2.f1 y.f2.f2 y.f3 y.f4 l = some (lft l (wtEN n y))) fun y hy => szExp_is n y (h4 y hy)
    refine ⟨max K (x.f4.length + 1) + 1, fun k hk l h0 h5 => ?_⟩
    obtain ⟨k, rfl⟩ : ∃ m, k = m + 1 := ⟨k - 1, by omega⟩
    show (laws_szValue.f _ _ _ l).bind _ = _
    rw [szValue_is _ _ _ l h0 h5 h1, Option.bind_some]
    by_cases a : (x.f2.f2.size : Int) ≤ l
    · rw [lft_of_le a, if_neg (by omega), wrap_id (x := l - (x.f2.f2.size : Int) - (x.f3.size : Int)) (by omega) (by omega)]
      by_cases b : l - (x.f2.f2.size : Int) - (x.f3.size : Int) < 0
      · rw [if_pos b, lft_of_gt (by unfold wtEN; omega)]
      · rw [if_neg b, szk_list z48 (laws_szExpS.f (laws_szExp.f k)) (laws_szExpS.l0 (laws_szExp.f k)) (fun y l => laws_szExp.f k y.f0 y.f1 y.f2.f0 y.f2.f1 y.f2.f2 y.f3 y.f4 l) (wtEN n) (fun _ _ _ => rfl) (fun _ _ _ _ => rfl) x.f4 h3 (fun y hy l a b => hK k (by omega) y hy l a b) k (by omega) _ (by omega) (by omega), Option.bind_some]
        by_cases c : ((x.f4.length + (x.f4.map (wtEN n)).sum : Nat) : Int) ≤ l - (x.f2.f2.size : Int) - (x.f3.size : Int)
        · rw [lft_of_le c, if_neg (by omega), lft_of_le (by unfold wtEN; omega)]
          congr 1
          unfold wtEN
          omega
        · rw [lft_of_gt c, if_pos (by omega), lft_of_gt (by unfold wtEN; omega)]
    · rw [lft_of_gt a, if_pos (by omega), lft_of_gt (by unfold wtEN; omega)]
theorem wtE_kid {n : Nat} {x y : S48} {b : Nat} (h : wtEN (n + 1) x ≤ b) (hy : y ∈ x.f4) : wtEN n y ≤ b := by
  have := sum_le_of_mem0 (wtEN n) hy
  unfold wtEN at h
  omega
theorem wtE_len {n : Nat} {x : S48} {b : Nat} (h : wtEN (n + 1) x ≤ b) : x.f4.length ≤ b := by
  unfold wtEN at h
  omega
def toEN : Nat → S48 → S55
  | 0, _ => z55
  | n + 1, x => ⟨x.f0, x.f1, ⟨x.f2.f0, x.f2.f1, x.f2.f2⟩, x.f3, x.f4.map (toEN n)⟩
theorem toExp_is : ∀ (n : Nat) (x : S48), okEN n x → wtEN n x ≤ 1048576 → ∃ K, ∀ k, K ≤ k → laws_toExp.f k x.f0 x.f1 x.f2.f0 x.f2.f1 x.f2.f2 x.f3 x.f4 = some ((toEN n x).f0, (toEN n x).f1, (toEN n x).f2.f0, (toEN n x).f2.f1, (toEN n x).f2.f2, (toEN n x).f3, (toEN n x).f4)
  | 0, _, h, _ => h.elim
  | n + 1, x, h, hw => by
    obtain ⟨_, _, _, h4⟩ := h
    have hl := wtE_len hw
    obtain ⟨K, hK⟩ := ev_all (xs := x.f4) (P := fun k y => laws_toExp.f k y.f0 y.f1 y.f2.f0 y.f2.f1 y.f2.f2 y.f3 y.f4 = some ((toEN n y).f0, (toEN n y).f1, (toEN n y).f2.f0, (toEN n y).f2.f1, (toEN n y).f2.f2, (toEN n y).f3, (toEN n y).f4)) fun y hy => toExp_is n y (h4 y hy) (wtE_kid hw hy)
    refine ⟨max K (x.f4.length + 1) + 1, fun k hk => ?_⟩
    obtain ⟨k, rfl⟩ : ∃ m, k = m + 1 := ⟨k - 1, by omega⟩
    show ((laws_toExpS.f (laws_toExp.f k) k x.f4).bind _) = _
    rw [mapk_list z48 z55 (laws_toExpS.f (laws_toExp.f k)) (laws_toExpS.l0 (laws_toExp.f k)) (fun y => laws_toExp.f k y.f0 y.f1 y.f2.f0 y.f2.f1 y.f2.f2 y.f3 y.f4) (fun bt => (⟨bt.1, bt.2.1, (⟨bt.2.2.1, bt.2.2.2.1, bt.2.2.2.2.1⟩ : S25), bt.2.2.2.2.2.1, bt.2.2.2.2.2.2⟩ : S55)) (fun y => ((toEN n y).f0, (toEN n y).f1, (toEN n y).f2.f0, (toEN n y).f2.f1, (toEN n y).f2.f2, (toEN n y).f3, (toEN n y).f4)) 3198579280802 (fun _ _ => rfl) (fun _ _ _ _ => rfl) x.f4 (by omega) (by omega) (fun y hy => hK k (by omega) y hy) k (by omega), Option.bind_some]
    have e : toEN (n + 1) x = ⟨x.f0, x.f1, ⟨x.f2.f0, x.f2.f1, x.f2.f2⟩, x.f3, x.f4.map (toEN n)⟩ := by simp only [toEN]
    rw [e]
    have hm : ∀ y : S55, (⟨y.f0, y.f1, (⟨y.f2.f0, y.f2.f1, y.f2.f2⟩ : S25), y.f3, y.f4⟩ : S55) = y := fun y => by cases y; rfl
    exact congrArg (fun l => some (x.f0, x.f1, x.f2.f0, x.f2.f1, x.f2.f2, x.f3, l)) (List.map_congr_left fun y _ => hm (toEN n y))
/-- All lists of kids are short, so far down. -/
def shortI : Nat → S55 → Prop
  | 0, _ => True
  | m + 1, y => y.f4.length ≤ 1048576 ∧ ∀ z ∈ y.f4, shortI m z
theorem short_z : ∀ m, shortI m z55
  | 0 => trivial
  | _ + 1 => ⟨by simp [z55], fun z hz => by simp [z55] at hz⟩
theorem toE_short : ∀ (n m : Nat) (x : S48), wtEN n x ≤ 1048576 → shortI m (toEN n x)
  | 0, m, _, _ => short_z m
  | _ + 1, 0, _, _ => trivial
  | n + 1, m + 1, x, h => by
    refine ⟨?_, fun z hz => ?_⟩
    · show (x.f4.map (toEN n)).length ≤ 1048576
      rw [List.length_map]
      exact wtE_len h
    · obtain ⟨u, hu, rfl⟩ := List.mem_map.1 hz
      exact toE_short n m u (wtE_kid h hu)
theorem eqExp_refl : ∀ (n : Nat) (x : S48), okEN n x → wtEN n x ≤ 1048576 → ∃ K, ∀ k, K ≤ k → laws_eqExp.f k (toEN n x).f0 (toEN n x).f1 (toEN n x).f2.f0 (toEN n x).f2.f1 (toEN n x).f2.f2 (toEN n x).f3 (toEN n x).f4 (toEN n x).f0 (toEN n x).f1 (toEN n x).f2.f0 (toEN n x).f2.f1 (toEN n x).f2.f2 (toEN n x).f3 (toEN n x).f4 = some true
  | 0, _, h, _ => h.elim
  | n + 1, x, h, hw => by
    obtain ⟨_, _, _, h4⟩ := h
    have hl := wtE_len hw
    obtain ⟨K, hK⟩ := ev_all (xs := x.f4) (P := fun k y => laws_eqExp.f k (toEN n y).f0 (toEN n y).f1 (toEN n y).f2.f0 (toEN n y).f2.f1 (toEN n y).f2.f2 (toEN n y).f3 (toEN n y).f4 (toEN n y).f0 (toEN n y).f1 (toEN n y).f2.f0 (toEN n y).f2.f1 (toEN n y).f2.f2 (toEN n y).f3 (toEN n y).f4 = some true) fun y hy => eqExp_refl n y (h4 y hy) (wtE_kid hw hy)
    refine ⟨max K (x.f4.length + 1) + 1, fun k hk => ?_⟩
    obtain ⟨k, rfl⟩ : ∃ m, k = m + 1 := ⟨k - 1, by omega⟩
    have e := eqk_list z55 (laws_eqExpS.f (laws_eqExp.f k)) (laws_eqExpS.l0 (laws_eqExp.f k)) (fun y z => laws_eqExp.f k y.f0 y.f1 y.f2.f0 y.f2.f1 y.f2.f2 y.f3 y.f4 z.f0 z.f1 z.f2.f0 z.f2.f1 z.f2.f2 z.f3 z.f4) (fun _ _ _ => rfl) (fun _ _ _ _ => rfl) (x.f4.map (toEN n)) (by rw [List.length_map]; omega) (fun y hy => by
      obtain ⟨u, hu, rfl⟩ := List.mem_map.1 hy
      exact hK k (by omega) u hu) k (by rw [List.length_map]; omega)
    simp [laws_eqExp.f, laws_eqValue.f, toEN, e]
theorem l03Has_is (xs : List ByteArray) (s : ByteArray) (hn : xs.length ≤ 9223372036854775807) : Ev (fun k => spec_l03Has.f k xs s) (xs.any fun x => x.toList == s.toList) := by
  have h : ∀ (n i : Nat), xs.length - i = n → i ≤ xs.length → Ev (fun k => spec_l03Has.l0 k xs s (i : Int)) ((xs.drop i).any fun x => x.toList == s.toList) := by
    intro n
    induction n with
    | zero =>
      intro i h1 h2
      refine Ev.step (fun k => rfl) (ev_if_neg (by omega) (ev_conv (ev_some fun _ => rfl) ?_))
      rw [show i = xs.length by omega, List.drop_length]
      rfl
    | succ n ih =>
      intro i h1 h2
      have hi : i < xs.length := by omega
      refine Ev.step (fun k => rfl) (ev_if_pos (by omega) (ev_if_pos (by omega) ?_))
      rw [drop_cons_getD ByteArray.empty hi, List.any_cons]
      show Ev (fun k => if (xs.getD (i : Int).toNat ByteArray.empty).toList = s.toList then some true else spec_l03Has.l0 k xs s (wrap64 ((i : Int) + 1))) _
      rw [Int.toNat_natCast]
      by_cases e : (xs.getD i ByteArray.empty).toList = s.toList
      · exact ev_if_pos e (ev_conv (ev_some fun _ => rfl) (by rw [e]; simp))
      · refine ev_if_neg e ?_
        rw [wrap_succ hi hn]
        exact ev_conv (ih (i + 1) (by omega) (by omega)) (by rw [show ((xs.getD i ByteArray.empty).toList == s.toList) = false from beq_eq_false_iff_ne.mpr e, Bool.false_or])
  exact ev_conv (h xs.length 0 (by omega) (by omega)) (by rw [List.drop_zero])
theorem containsS_is (xs : List ByteArray) (s : ByteArray) (hn : xs.length ≤ 9223372036854775807) : Ev (fun k => slices_Contains_string_string.f k xs s) (xs.any fun x => x.toList == s.toList) := by
  have h : ∀ (n i : Nat), xs.length - i = n → i ≤ xs.length → ∃ j, Ev (fun k => slices_Index_string_string.l0 k xs s (xs.length : Int) (i : Int)) j ∧ decide (j ≥ 0) = (xs.drop i).any fun x => x.toList == s.toList := by
    intro n
    induction n with
    | zero =>
      intro i h1 h2
      refine ⟨-1, Ev.step (fun k => rfl) (ev_if_neg (by omega) (ev_some fun _ => rfl)), ?_⟩
      rw [show i = xs.length by omega, List.drop_length]
      rfl
    | succ n ih =>
      intro i h1 h2
      have hi : i < xs.length := by omega
      by_cases e : s.toList = (xs.getD i ByteArray.empty).toList
      · refine ⟨i, Ev.step (fun k => rfl) (ev_if_pos (by omega) (ev_if_pos (by omega) (ev_if_pos (by omega) ?_))), ?_⟩
        · show Ev (fun k => if s.toList = (xs.getD (i : Int).toNat ByteArray.empty).toList then some (i : Int) else slices_Index_string_string.l0 k xs s (xs.length : Int) (wrap64 ((i : Int) + 1))) _
          rw [Int.toNat_natCast]
          exact ev_if_pos e (ev_some fun _ => rfl)
        · rw [drop_cons_getD ByteArray.empty hi, List.any_cons]
          rw [← e]
          simp
      · obtain ⟨j, hj, hd⟩ := ih (i + 1) (by omega) (by omega)
        refine ⟨j, Ev.step (fun k => rfl) (ev_if_pos (by omega) (ev_if_pos (by omega) (ev_if_pos (by omega) ?_))), ?_⟩
        · show Ev (fun k => if s.toList = (xs.getD (i : Int).toNat ByteArray.empty).toList then some (i : Int) else slices_Index_string_string.l0 k xs s (xs.length : Int) (wrap64 ((i : Int) + 1))) _
          rw [Int.toNat_natCast, wrap_succ hi hn]
          exact ev_if_neg e hj
        · rw [hd, drop_cons_getD ByteArray.empty hi, List.any_cons]
          rw [show ((xs.getD i ByteArray.empty).toList == s.toList) = false from beq_eq_false_iff_ne.mpr fun h => e h.symm, Bool.false_or]
  obtain ⟨j, hj, hd⟩ := h xs.length 0 (by omega) (by omega)
  rw [List.drop_zero] at hd
  exact Ev.congr (fun k => rfl) (Ev.bind hj (f := fun k t => some (decide (t ≥ 0))) (ev_conv (ev_some fun _ => rfl) hd))
/-- The texts of the operations. -/
def opsL : List ByteArray := [(⟨#[43]⟩ : ByteArray), (⟨#[45]⟩ : ByteArray), (⟨#[42]⟩ : ByteArray), (⟨#[47]⟩ : ByteArray), (⟨#[61]⟩ : ByteArray), (⟨#[60]⟩ : ByteArray), (⟨#[126]⟩ : ByteArray), (⟨#[97, 110, 100]⟩ : ByteArray), (⟨#[111, 114]⟩ : ByteArray)]
def isOpB (op : ByteArray) : Bool := opsL.any fun x => x.toList == op.toList
/-- An expression's own part is right, and so many kids are asked. -/
def locE (a n v0 v1 : Int) (v2 op : ByteArray) (c : Nat) : Bool :=
  if a = 0 then decide (0 ≤ n ∧ n ≤ 11) && nullB v0 v1 v2 && (op.toList == ([] : List UInt8)) && c == 0
  else if a = 1 then okV v0 v1 v2.data.toList && (n == 0) && (op.toList == ([] : List UInt8)) && c == 0
  else if a = 2 then isOpB op && (n == 0) && nullB v0 v1 v2 && c == 2
  else if a = 3 ∨ a = 4 then (n == 0) && nullB v0 v1 v2 && (op.toList == ([] : List UInt8)) && c == 1
  else false
/-- An expression is right, and nothing stands more than m - 1 below it. -/
def okE : Nat → S55 → Bool
  | 0, _ => false
  | m + 1, y => locE y.f0 y.f1 y.f2.f0 y.f2.f1 y.f2.f2 y.f3 y.f4.length && y.f4.all (okE m)
theorem isColumn_is (n : Int) : impl_isColumn.f n = some (decide (0 ≤ n ∧ n ≤ 11)) := by
  unfold impl_isColumn.f impl_within.f
  by_cases h : 0 ≤ n <;> simp [h]
theorem isOp_is (op : ByteArray) : Ev (fun k => impl_isOp.f k op) (isOpB op) :=
  Ev.congr (fun k => rfl) (Ev.bind (containsS_is opsL op (by decide)) (f := fun k t => some t) (ev_some fun _ => rfl))
theorem allO_evs {α : Type} {f : Nat → α → Option Bool} {g : α → Bool} : ∀ {xs : List α}, (∀ x ∈ xs, Ev (fun k => f k x) (g x)) → Ev (fun k => allO (f k) xs) (xs.all g)
  | [], _ => ev_some fun _ => rfl
  | x :: xs, h => by
    refine Ev.congr (fun k => rfl) (Ev.bind (h x (by simp)) (f := fun k t => if t = true then allO (f k) xs else some false) ?_)
    cases hx : g x with
    | true => exact ev_if_pos rfl (ev_conv (allO_evs fun y hy => h y (by simp [hy])) (by simp [hx]))
    | false => exact ev_if_neg (by simp) (ev_conv (ev_some fun _ => rfl) (by simp [hx]))
theorem loc_end (b : Bool) (c : Nat) (kn : Int) (m : Nat) (h : kn = m) : (if b = true then decide ((c : Int) = kn) else false) = (b && c == m) := by
  subst h
  cases b with
  | false => rfl
  | true =>
    rw [if_pos rfl, Bool.true_and, Bool.eq_iff_iff, decide_eq_true_iff, beq_iff_eq]
    omega
theorem isExpS_is (a n v0 v1 : Int) (v2 op : ByteArray) : ∃ kn rt, Ev (fun k => isExpS k a n v0 v1 v2 op) (kn, rt) ∧ ∀ c : Nat, (if rt = true then decide ((c : Int) = kn) else false) = locE a n v0 v1 v2 op c := by
  unfold isExpS locE
  by_cases a0 : a = 0
  · exact ⟨0, _, ev_if_pos a0 (ev_bind0 (isColumn_is n) (ev_some fun _ => rfl)), fun c => by rw [if_pos a0]; exact loc_end _ c 0 0 rfl⟩
  by_cases a1 : a = 1
  · exact ⟨0, _, ev_if_neg a0 (ev_if_pos a1 (ev_bind0 (implValueOk_is v0 v1 v2) (ev_some fun _ => rfl))), fun c => by rw [if_neg a0, if_pos a1]; exact loc_end _ c 0 0 rfl⟩
  by_cases a2 : a = 2
  · exact ⟨2, _, ev_if_neg a0 (ev_if_neg a1 (ev_if_pos a2 (Ev.bind (isOp_is op) (ev_some fun _ => rfl)))), fun c => by rw [if_neg a0, if_neg a1, if_pos a2]; exact loc_end _ c 2 2 rfl⟩
  by_cases a3 : a = 3 ∨ a = 4
  · exact ⟨1, _, ev_if_neg a0 (ev_if_neg a1 (ev_if_neg a2 (ev_if_pos a3 (ev_some fun _ => rfl)))), fun c => by rw [if_neg a0, if_neg a1, if_neg a2, if_pos a3]; exact loc_end _ c 1 1 rfl⟩
  · exact ⟨0, false, ev_if_neg a0 (ev_if_neg a1 (ev_if_neg a2 (ev_if_neg a3 (ev_some fun _ => rfl)))), fun c => by simp [a0, a1, a2, a3]⟩
theorem impl_isExp_is : ∀ (m : Nat) (y : S55) (d : Int), m ≤ 13 → d = 13 - m → shortI m y → Ev (fun k => impl_isExp.f k y.f0 y.f1 y.f2.f0 y.f2.f1 y.f2.f2 y.f3 y.f4 d) (okE m y) := by
  intro m
  induction m with
  | zero =>
    intro y d hm hd _
    obtain ⟨kn, rt, hs, _⟩ := isExpS_is y.f0 y.f1 y.f2.f0 y.f2.f1 y.f2.f2 y.f3
    refine Ev.step (fun k => rfl) (Ev.bind hs ?_)
    cases rt with
    | false => exact ev_if_neg (by simp) (ev_some fun _ => rfl)
    | true => exact ev_if_pos rfl (ev_if_neg (by omega) (ev_some fun _ => rfl))
  | succ m ih =>
    intro y d hm hd hy
    obtain ⟨kn, rt, hs, hl⟩ := isExpS_is y.f0 y.f1 y.f2.f0 y.f2.f1 y.f2.f2 y.f3
    have hl := hl y.f4.length
    refine Ev.step (fun k => rfl) (Ev.bind hs ?_)
    cases rt with
    | false => exact ev_if_neg (by simp) (ev_conv (ev_some fun _ => rfl) (by simp only [okE]; rw [← hl]; simp))
    | true =>
      rw [if_pos rfl] at hl
      refine ev_if_pos rfl (ev_if_pos (by omega) ?_)
      by_cases e : (y.f4.length : Int) = kn
      · refine ev_if_pos e (ev_conv (allO_evs (g := okE m) fun x hx => ?_) (by simp only [okE]; rw [← hl]; simp [e]))
        rw [wrap_id (x := d + 1) (by omega) (by omega)]
        exact ih x (d + 1) (by omega) (by omega) (hy.2 x hx)
      · exact ev_if_neg e (ev_conv (ev_some fun _ => rfl) (by simp only [okE]; rw [← hl]; simp [e]))
theorem l03In_is (a b c : Int) : spec_l01In.f a b c = some (decide (b ≤ a ∧ a ≤ c)) := by
  unfold spec_l01In.f
  by_cases h : b ≤ a <;> simp [h]
theorem l03j_is (a n v0 v1 : Int) (v2 op : ByteArray) (l : List S55) (hl : l.length ≤ 1048576) : Ev (fun k => spec_l03Right.j1 k (if n = 0 then nullB v0 v1 v2 else false) a n v0 v1 v2 op l) (locE a n v0 v1 v2 op l.length) := by
  have hc0 : ((l.length : Int) == 0) = (l.length == 0) := by rw [Bool.eq_iff_iff, beq_iff_eq, beq_iff_eq]; omega
  have hc1 : ((l.length : Int) == 1) = (l.length == 1) := by rw [Bool.eq_iff_iff, beq_iff_eq, beq_iff_eq]; omega
  unfold locE
  by_cases a0 : a = 0
  · rw [if_pos a0]
    refine Ev.step (fun k => rfl) (ev_if_pos a0 (ev_bind0 (l03In_is n 0 11) ?_))
    cases decide (0 ≤ n ∧ n ≤ 11) with
    | false => exact ev_if_neg (by simp) (ev_conv (ev_some fun _ => rfl) (by simp))
    | true =>
      refine ev_if_pos rfl ?_
      cases hz : nullB v0 v1 v2 with
      | false => exact ev_if_neg (by have := hz; unfold nullB at this; rw [this]; simp) (ev_conv (ev_some fun _ => rfl) (by simp))
      | true =>
        refine ev_if_pos hz ?_
        by_cases e : op.toList = ([] : List UInt8)
        · exact ev_if_pos e (ev_conv (ev_some fun _ => rfl) (by rw [hc0]; simp [e]))
        · exact ev_if_neg e (ev_conv (ev_some fun _ => rfl) (by simp [e]))
  rw [if_neg a0]
  by_cases a1 : a = 1
  · rw [if_pos a1]
    refine Ev.step (fun k => rfl) (ev_if_neg a0 (ev_if_pos a1 (ev_bind0 (specValueOk_is v0 v1 v2) ?_)))
    cases okV v0 v1 v2.data.toList with
    | false => exact ev_if_neg (by simp) (ev_conv (ev_some fun _ => rfl) (by simp))
    | true =>
      refine ev_if_pos rfl ?_
      by_cases e0 : n = 0
      · refine ev_if_pos e0 ?_
        by_cases e : op.toList = ([] : List UInt8)
        · exact ev_if_pos e (ev_conv (ev_some fun _ => rfl) (by rw [hc0]; simp [e, e0]))
        · exact ev_if_neg e (ev_conv (ev_some fun _ => rfl) (by simp [e]))
      · exact ev_if_neg e0 (ev_conv (ev_some fun _ => rfl) (by simp [e0]))
  rw [if_neg a1]
  have hp : (if n = 0 then nullB v0 v1 v2 else false) = ((n == 0) && nullB v0 v1 v2) := by by_cases e : n = 0 <;> simp [e]
  rw [hp]
  by_cases a2 : a = 2
  · rw [if_pos a2]
    refine Ev.step (fun k => rfl) (ev_if_neg a0 (ev_if_neg a1 (ev_if_pos a2 ?_)))
    cases hq : ((n == 0) && nullB v0 v1 v2) with
    | false => exact ev_if_neg (by simp) (ev_conv (ev_some fun _ => rfl) (by rw [Bool.and_assoc (isOpB op), hq]; simp))
    | true =>
      refine ev_if_pos rfl ?_
      by_cases e : (l.length : Int) = 2
      · refine ev_if_pos e (ev_conv (Ev.bind (l03Has_is opsL op (by decide)) (f := fun k t => some t) (ev_some fun _ => rfl)) ?_)
        rw [Bool.and_assoc (isOpB op), hq, show l.length = 2 by omega]
        simp [isOpB]
      · exact ev_if_neg e (ev_conv (ev_some fun _ => rfl) (by rw [show (l.length == 2) = false from beq_eq_false_iff_ne.mpr (by omega)]; simp))
  rw [if_neg a2]
  by_cases a3 : a = 3
  · rw [if_pos (Or.inl a3)]
    refine Ev.step (fun k => rfl) (ev_if_neg a0 (ev_if_neg a1 (ev_if_neg a2 (ev_if_pos a3 ?_))))
    cases hq : ((n == 0) && nullB v0 v1 v2) with
    | false => exact ev_if_neg (by simp) (ev_conv (ev_some fun _ => rfl) (by simp))
    | true =>
      refine ev_if_pos rfl ?_
      by_cases e : op.toList = ([] : List UInt8)
      · exact ev_if_pos e (ev_conv (ev_some fun _ => rfl) (by rw [hc1]; simp [e]))
      · exact ev_if_neg e (ev_conv (ev_some fun _ => rfl) (by simp [e]))
  by_cases a4 : a = 4
  · rw [if_pos (Or.inr a4)]
    refine Ev.step (fun k => rfl) (ev_if_neg a0 (ev_if_neg a1 (ev_if_neg a2 (ev_if_neg a3 (ev_if_pos a4 ?_)))))
    cases hq : ((n == 0) && nullB v0 v1 v2) with
    | false => exact ev_if_neg (by simp) (ev_conv (ev_some fun _ => rfl) (by simp))
    | true =>
      refine ev_if_pos rfl ?_
      by_cases e : op.toList = ([] : List UInt8)
      · exact ev_if_pos e (ev_conv (ev_some fun _ => rfl) (by rw [hc1]; simp [e]))
      · exact ev_if_neg e (ev_conv (ev_some fun _ => rfl) (by simp [e]))
  · rw [if_neg (by omega)]
    exact Ev.step (fun k => rfl) (ev_if_neg a0 (ev_if_neg a1 (ev_if_neg a2 (ev_if_neg a3 (ev_if_neg a4 (ev_some fun _ => rfl))))))
theorem spec_l03Right_is : ∀ (m : Nat) (y : S55) (d : Int), m ≤ 1000 → d = (m : Int) - 1 → shortI m y → Ev (fun k => spec_l03Right.f k y.f0 y.f1 y.f2.f0 y.f2.f1 y.f2.f2 y.f3 y.f4 d) (okE m y) := by
  intro m
  induction m with
  | zero =>
    intro y d hm hd _
    exact Ev.step (fun k => rfl) (ev_if_pos (by omega) (ev_some fun _ => rfl))
  | succ m ih =>
    intro y d hm hd hy
    obtain ⟨hl, hk⟩ := hy
    refine Ev.step (fun k => rfl) (ev_if_neg (by omega) ?_)
    have fin : ∀ r : Bool, (r = true ↔ locE y.f0 y.f1 y.f2.f0 y.f2.f1 y.f2.f2 y.f3 y.f4.length = true) → Ev (fun k => spec_l03Right.l0 k d (y.f4.length : Int) y.f0 y.f1 y.f2.f0 y.f2.f1 y.f2.f2 y.f3 y.f4) r := by
      intro r hr
      have e : r = locE y.f0 y.f1 y.f2.f0 y.f2.f1 y.f2.f2 y.f3 y.f4.length := by rw [Bool.eq_iff_iff]; exact hr
      rw [e]
      refine Ev.step (fun k => rfl) (ev_if_neg (by omega) ?_)
      have j := l03j_is y.f0 y.f1 y.f2.f0 y.f2.f1 y.f2.f2 y.f3 y.f4 hl
      by_cases e0 : y.f1 = 0
      · rw [if_pos e0] at j
        exact ev_if_pos e0 j
      · rw [if_neg e0] at j
        exact ev_if_neg e0 j
    refine all_loop y.f4.length (fun k i => spec_l03Right.l0 k d i y.f0 y.f1 y.f2.f0 y.f2.f1 y.f2.f2 y.f3 y.f4) (fun j => okE m (y.f4.getD j z55) = true) (locE y.f0 y.f1 y.f2.f0 y.f2.f1 y.f2.f2 y.f3 y.f4.length = true) fin ?_ (okE (m + 1) y) ?_
    · intro i hi r hg hb
      refine Ev.step (fun k => rfl) (ev_if_pos (by omega) (ev_if_pos (by omega) ?_))
      have e := ih (y.f4.getD i z55) (wrap64 (d - 1)) (by omega) (by rw [wrap_id (by omega) (by omega)]; omega) (hk _ (getD_mem _ hi))
      refine Ev.bind (a := okE m (y.f4.getD i z55)) e ?_
      cases ho : okE m (y.f4.getD i z55) with
      | true =>
        refine ev_if_pos rfl ?_
        rw [wrap_succ hi (by omega)]
        exact hg ho
      | false => exact ev_if_neg (by simp) (ev_conv (ev_some fun _ => rfl) (hb fun h => by rw [ho] at h; cases h).symm)
    · rw [forall_getD z55 (p := fun x => okE m x = true)]
      simp only [okE, Bool.and_eq_true, List.all_eq_true]
      exact And.comm
theorem impl_expOk_is (y : S55) (h : shortI 13 y) : Ev (fun k => impl_ExpOk.f k y.f0 y.f1 y.f2.f0 y.f2.f1 y.f2.f2 y.f3 y.f4) (okE 13 y) :=
  Ev.congr (fun k => rfl) (Ev.bind (impl_isExp_is 13 y 0 (by omega) (by omega) h) (f := fun k t => some t) (ev_some fun _ => rfl))
theorem spec_expOk_is (y : S55) (h : shortI 13 y) : Ev (fun k => spec_ExpOk.f k y.f0 y.f1 y.f2.f0 y.f2.f1 y.f2.f2 y.f3 y.f4) (okE 13 y) :=
  Ev.congr (fun k => rfl) (Ev.bind (spec_l03Right_is 13 y 12 (by omega) (by omega) h) (f := fun k t => some t) (ev_some fun _ => rfl))
def okT (t : Int × Int × ByteArray) : Prop := -9223372036854775808 ≤ t.2.1 ∧ t.2.1 ≤ 9223372036854775807 ∧ t.2.2.size ≤ 1048576
theorem okT_null : okT nullT := by unfold okT nullT; exact ⟨by decide, by decide, by decide⟩
theorem okT_flag (b : Bool) : okT (flagT b) := by cases b <;> exact ⟨by decide, by decide, by decide⟩
theorem okT_int {n : Int} (h : -9223372036854775808 ≤ n) (h' : n ≤ 9223372036854775807) : okT (intT n) := ⟨h, h', by show (0 : Nat) ≤ _; omega⟩
theorem okT_wrap (n : Int) : okT (intT (wrap64 n)) := okT_int (by unfold wrap64; omega) (by unfold wrap64; omega)
theorem okT_ite {c : Prop} [Decidable c] {a b : Int × Int × ByteArray} (ha : okT a) (hb : okT b) : okT (if c then a else b) := by split <;> assumption
theorem okT_logic (o : Bool) (x y : Int × Int × ByteArray) : okT (logicT o x y) := okT_ite (okT_flag _) (okT_ite (okT_flag _) okT_null)
theorem okT_arith (op : List UInt8) (x y : Int) : okT (arithT op x y) :=
  okT_ite (okT_ite okT_null (okT_wrap _)) (okT_ite (okT_ite okT_null (okT_wrap _)) (okT_ite (okT_ite (okT_int (by decide) (by decide)) (okT_ite (okT_int (by decide) (by decide)) (okT_ite (okT_wrap _) okT_null)))
    (okT_ite (okT_ite okT_null (okT_ite okT_null (okT_ite (okT_wrap _) (okT_ite (okT_wrap _) (okT_wrap _))))) okT_null)))
theorem okT_reck (op : List UInt8) (x y : Int × Int × ByteArray) : okT (reckT op x y) :=
  okT_ite (okT_logic _ _ _) (okT_ite (okT_logic _ _ _) (okT_ite okT_null (okT_ite (okT_flag _) (okT_ite (okT_flag _) (okT_ite (okT_flag _) (okT_ite (okT_arith _ _ _) okT_null))))))
def notT (t : Int × Int × ByteArray) : Int × Int × ByteArray := if t.1 = 2 then flagT (t.2.1 == 0) else nullT
def isNullT (t : Int × Int × ByteArray) : Int × Int × ByteArray := flagT (t.1 == 0)
theorem implNot_is (a b : Int) (s : ByteArray) : impl_Not.f a b s = some (notT (a, b, s)) := by
  unfold impl_Not.f notT
  rw [flag_is]
  by_cases h : a = 2 <;> simp [h, impl_null.f, nullT]
theorem specNot_is (a b : Int) (s : ByteArray) : spec_Not.f a b s = some (notT (a, b, s)) := by
  unfold spec_Not.f notT
  rw [l01Bool_is]
  by_cases h : a = 2 <;> simp [h, nullT]
theorem implIsNull_is (a b : Int) (s : ByteArray) : impl_IsNull.f a b s = some (isNullT (a, b, s)) := by
  unfold impl_IsNull.f isNullT
  rw [flag_is]
  rfl
theorem specIsNull_is (a b : Int) (s : ByteArray) : spec_IsNull.f a b s = some (isNullT (a, b, s)) := by
  unfold spec_IsNull.f isNullT
  rw [l01Bool_is]
  rfl
/-- What an expression is of a row, so far down. -/
def evT (row : List S25) : Nat → S55 → Int × Int × ByteArray
  | 0, _ => nullT
  | m + 1, y =>
    if y.f0 = 0 then (if y.f1 < (row.length : Int) then ((row.getD y.f1.toNat z25).f0, (row.getD y.f1.toNat z25).f1, (row.getD y.f1.toNat z25).f2) else nullT)
    else if y.f0 = 1 then (y.f2.f0, y.f2.f1, y.f2.f2)
    else if y.f0 = 2 then reckT y.f3.toList (evT row m (y.f4.getD 0 z55)) (evT row m (y.f4.getD 1 z55))
    else if y.f0 = 3 then notT (evT row m (y.f4.getD 0 z55))
    else isNullT (evT row m (y.f4.getD 0 z55))
/-- All values of an expression are of their kinds, and short. -/
def goodI : Nat → S55 → Prop
  | 0, _ => True
  | m + 1, y => okT (y.f2.f0, y.f2.f1, y.f2.f2) ∧ ∀ z ∈ y.f4, goodI m z
def okRow (row : List S25) : Prop := ∀ v ∈ row, okT (v.f0, v.f1, v.f2)
theorem evT_ok {row : List S25} (hr : okRow row) : ∀ (m : Nat) (y : S55), goodI m y → 0 ≤ y.f1 ∨ y.f0 ≠ 0 → okT (evT row m y)
  | 0, _, _, _ => okT_null
  | m + 1, y, h, h1 => by
    unfold evT
    by_cases a0 : y.f0 = 0
    · rw [if_pos a0]
      by_cases c : y.f1 < (row.length : Int)
      · rw [if_pos c]
        exact hr _ (getD_mem _ (by omega))
      · rw [if_neg c]
        exact okT_null
    rw [if_neg a0]
    exact okT_ite h.1 (okT_ite (okT_reck _ _ _) (okT_ite (okT_ite (okT_flag _) okT_null) (okT_flag _)))
/-- What being right tells of an expression's own part. -/
theorem locE_col {a n v0 v1 : Int} {v2 op : ByteArray} {c : Nat} (h : locE a n v0 v1 v2 op c = true) (h0 : a = 0) : 0 ≤ n := by
  unfold locE at h
  rw [if_pos h0] at h
  simp only [Bool.and_eq_true, decide_eq_true_eq] at h
  exact h.1.1.1.1
theorem locE_two {a n v0 v1 : Int} {v2 op : ByteArray} {c : Nat} (h : locE a n v0 v1 v2 op c = true) (h2 : a = 2) : c = 2 := by
  unfold locE at h
  rw [if_neg (by omega), if_neg (by omega), if_pos h2] at h
  simp only [Bool.and_eq_true, beq_iff_eq] at h
  exact h.2
theorem locE_one {a n v0 v1 : Int} {v2 op : ByteArray} {c : Nat} (h : locE a n v0 v1 v2 op c = true) (h0 : ¬ a = 0) (h1 : ¬ a = 1) (h2 : ¬ a = 2) : c = 1 := by
  unfold locE at h
  rw [if_neg h0, if_neg h1, if_neg h2] at h
  by_cases h3 : a = 3 ∨ a = 4
  · rw [if_pos h3] at h
    simp only [Bool.and_eq_true, beq_iff_eq] at h
    exact h.2
  · rw [if_neg h3] at h
    cases h
theorem okE_kid {m : Nat} {y z : S55} (h : okE (m + 1) y = true) (hz : z ∈ y.f4) : okE m z = true := by
  simp only [okE, Bool.and_eq_true, List.all_eq_true] at h
  exact h.2 z hz
theorem okE_loc {m : Nat} {y : S55} (h : okE (m + 1) y = true) : locE y.f0 y.f1 y.f2.f0 y.f2.f1 y.f2.f2 y.f3 y.f4.length = true := by
  simp only [okE, Bool.and_eq_true] at h
  exact h.1
theorem okE_f1 {m : Nat} {y : S55} (h : okE m y = true) : 0 ≤ y.f1 ∨ y.f0 ≠ 0 := by
  cases m with
  | zero => cases h
  | succ m =>
    by_cases a0 : y.f0 = 0
    · exact Or.inl (locE_col (okE_loc h) a0)
    · exact Or.inr a0
theorem evs_is {row : List S25} (hr : okRow row) (hl : row.length ≤ 9223372036854775807) : ∀ (m : Nat) (y : S55), okE m y = true → goodI m y →
    Ev (fun k => impl_eval.f k y.f0 y.f1 y.f2.f0 y.f2.f1 y.f2.f2 y.f3 y.f4 row) (evT row m y) ∧ Ev (fun k => spec_l03Eval.f k y.f0 y.f1 y.f2.f0 y.f2.f1 y.f2.f2 y.f3 y.f4 row) (evT row m y) := by
  intro m
  induction m with
  | zero => intro y h _; cases h
  | succ m ih =>
    intro y h hg
    have loc := okE_loc h
    unfold evT
    by_cases a0 : y.f0 = 0
    · have hn := locE_col loc a0
      rw [if_pos a0]
      by_cases c : y.f1 < (row.length : Int)
      · rw [if_pos c]
        exact ⟨Ev.step (fun k => rfl) (ev_if_pos a0 (ev_if_pos c (ev_if_pos hn (ev_some fun _ => rfl)))), Ev.step (fun k => rfl) (ev_if_pos a0 (ev_if_neg (by omega) (ev_if_pos hn (ev_if_pos c (ev_some fun _ => rfl)))))⟩
      · rw [if_neg c]
        exact ⟨Ev.step (fun k => rfl) (ev_if_pos a0 (ev_if_neg c (ev_some fun _ => rfl))), Ev.step (fun k => rfl) (ev_if_pos a0 (ev_if_pos (by omega) (ev_some fun _ => rfl)))⟩
    rw [if_neg a0]
    by_cases a1 : y.f0 = 1
    · rw [if_pos a1]
      exact ⟨Ev.step (fun k => rfl) (ev_if_neg a0 (ev_if_pos a1 (ev_some fun _ => rfl))), Ev.step (fun k => rfl) (ev_if_neg a0 (ev_if_pos a1 (ev_some fun _ => rfl)))⟩
    rw [if_neg a1]
    have kid : ∀ j, j < y.f4.length → okE m (y.f4.getD j z55) = true ∧ goodI m (y.f4.getD j z55) := fun j hj => ⟨okE_kid h (getD_mem _ hj), hg.2 _ (getD_mem _ hj)⟩
    by_cases a2 : y.f0 = 2
    · have hc := locE_two loc a2
      rw [if_pos a2]
      obtain ⟨k0, g0⟩ := kid 0 (by omega)
      obtain ⟨k1, g1⟩ := kid 1 (by omega)
      obtain ⟨i0, s0⟩ := ih _ k0 g0
      obtain ⟨i1, s1⟩ := ih _ k1 g1
      have t0 := evT_ok hr m _ g0 (okE_f1 k0)
      have t1 := evT_ok hr m _ g1 (okE_f1 k1)
      refine ⟨Ev.step (fun k => rfl) (ev_if_neg a0 (ev_if_neg a1 (ev_if_pos a2 (ev_if_pos (by omega) (Ev.bind i0 (ev_if_pos (by omega) (Ev.bind i1 ?_))))))), Ev.step (fun k => rfl) (ev_if_neg a0 (ev_if_neg a1 (ev_if_pos a2 (ev_if_pos (by omega) (Ev.bind s0 (ev_if_pos (by omega) (Ev.bind s1 ?_)))))))⟩
      · exact Ev.bind (impl_reckon_is y.f3 _ _ _ _ _ _ t0.2.2) (ev_some fun _ => rfl)
      · exact Ev.bind (spec_reckon_is y.f3 _ _ _ _ _ _ t0.1 t0.2.1 t0.2.2 t1.2.2) (ev_some fun _ => rfl)
    rw [if_neg a2]
    have hc := locE_one loc a0 a1 a2
    obtain ⟨k0, g0⟩ := kid 0 (by omega)
    obtain ⟨i0, s0⟩ := ih _ k0 g0
    by_cases a3 : y.f0 = 3
    · rw [if_pos a3]
      exact ⟨Ev.step (fun k => rfl) (ev_if_neg a0 (ev_if_neg a1 (ev_if_neg a2 (ev_if_pos a3 (ev_if_pos (by omega) (Ev.bind i0 (ev_bind0 (implNot_is _ _ _) (ev_some fun _ => rfl)))))))), Ev.step (fun k => rfl) (ev_if_neg a0 (ev_if_neg a1 (ev_if_neg a2 (ev_if_pos a3 (ev_if_pos (by omega) (Ev.bind s0 (ev_bind0 (specNot_is _ _ _) (ev_some fun _ => rfl))))))))⟩
    · rw [if_neg a3]
      exact ⟨Ev.step (fun k => rfl) (ev_if_neg a0 (ev_if_neg a1 (ev_if_neg a2 (ev_if_neg a3 (ev_if_pos (by omega) (Ev.bind i0 (ev_bind0 (implIsNull_is _ _ _) (ev_some fun _ => rfl)))))))), Ev.step (fun k => rfl) (ev_if_neg a0 (ev_if_neg a1 (ev_if_neg a2 (ev_if_neg a3 (ev_if_pos (by omega) (Ev.bind s0 (ev_bind0 (specIsNull_is _ _ _) (ev_some fun _ => rfl))))))))⟩
/-- Eval. -/
def evalT (row : List S25) (y : S55) : Int × Int × ByteArray := if okE 13 y = true then evT row 13 y else nullT
theorem implEval_is {row : List S25} (hr : okRow row) (hl : row.length ≤ 9223372036854775807) (y : S55) (hs : shortI 13 y) (hg : goodI 13 y) : Ev (fun k => impl_Eval.f k y.f0 y.f1 y.f2.f0 y.f2.f1 y.f2.f2 y.f3 y.f4 row) (evalT row y) := by
  refine Ev.congr (fun k => rfl) (Ev.bind (impl_expOk_is y hs) ?_)
  unfold evalT
  cases h : okE 13 y with
  | true => exact ev_if_pos rfl (ev_conv (Ev.bind (evs_is hr hl 13 y h hg).1 (ev_some fun _ => rfl)) (if_pos rfl).symm)
  | false => exact ev_if_neg (by simp) (ev_conv (ev_some fun _ => rfl) (if_neg (by simp)).symm)
theorem specEval_is {row : List S25} (hr : okRow row) (hl : row.length ≤ 9223372036854775807) (y : S55) (hs : shortI 13 y) (hg : goodI 13 y) : Ev (fun k => spec_Eval.f k y.f0 y.f1 y.f2.f0 y.f2.f1 y.f2.f2 y.f3 y.f4 row) (evalT row y) := by
  refine Ev.congr (fun k => rfl) (Ev.bind (spec_expOk_is y hs) ?_)
  unfold evalT
  cases h : okE 13 y with
  | true => exact ev_if_pos rfl (ev_conv (Ev.bind (evs_is hr hl 13 y h hg).2 (ev_some fun _ => rfl)) (if_pos rfl).symm)
  | false => exact ev_if_neg (by simp) (ev_conv (ev_some fun _ => rfl) (if_neg (by simp)).symm)
/-- What is read is of its kind, so far down. -/
def i64EN : Nat → S48 → Prop
  | 0, _ => False
  | n + 1, x => -9223372036854775808 ≤ x.f2.f1 ∧ x.f2.f1 ≤ 9223372036854775807 ∧ ∀ y ∈ x.f4, i64EN n y
theorem good_z : ∀ m, goodI m z55
  | 0 => trivial
  | _ + 1 => ⟨⟨by decide, by decide, by decide⟩, fun z hz => by simp [z55] at hz⟩
theorem toE_good : ∀ (n m : Nat) (x : S48), wtEN n x ≤ 1048576 → i64EN n x → goodI m (toEN n x)
  | 0, m, _, _, _ => good_z m
  | _ + 1, 0, _, _, _ => trivial
  | n + 1, m + 1, x, h, g => by
    refine ⟨⟨g.1, g.2.1, ?_⟩, fun z hz => ?_⟩
    · show x.f2.f2.size ≤ 1048576
      unfold wtEN at h
      omega
    · obtain ⟨u, hu, rfl⟩ := List.mem_map.1 hz
      exact toE_good n m u (wtE_kid h hu) (g.2.2 u hu)
end Go.Proofs.Ythgdmdabdlgliaa.PFnExactEval
