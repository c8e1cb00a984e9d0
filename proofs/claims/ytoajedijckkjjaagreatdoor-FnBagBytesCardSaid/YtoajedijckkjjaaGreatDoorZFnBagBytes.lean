/- Plain lemmas on loops by rounds: no program in sight. -/
import Derived.Test.YtoajedijckkjjaaGreatDoorWWords
import Derived.Laws.BitsLemmas
import Derived.Lib.Strings
namespace Go.Proofs.YtoajedijckkjjaaGreatDoor.ZFnBagBytes
open Go.RowKit Go.Proofs.YtoajedijckkjjaaGreatDoorW.PrintWords
set_option linter.unusedVariables false
theorem wrap_id {x : Int} (h : -9223372036854775808 ≤ x) (h' : x ≤ 9223372036854775807) : wrap64 x = x := by unfold wrap64; omega
theorem wrap_succ {i n : Nat} (h : i < n) (hn : n ≤ 9223372036854775807) : wrap64 ((i : Int) + 1) = ((i + 1 : Nat) : Int) := by
 rw [wrap_id (by omega) (by omega)]
 omega
theorem ev_some {α : Type} {g : Nat → Option α} {r : α} (h : ∀ k, g k = some r) : Ev g r := ⟨0, fun k _ => h k⟩
theorem ev_if_pos {α : Type} {c : Prop} [Decidable c] {g f : Nat → Option α} {r : α} (hc : c) (h : Ev g r) : Ev (fun k => if c then g k else f k) r := Ev.congr (fun k => if_pos hc) h
theorem ev_if_neg {α : Type} {c : Prop} [Decidable c] {g f : Nat → Option α} {r : α} (hc : ¬ c) (h : Ev f r) : Ev (fun k => if c then g k else f k) r := Ev.congr (fun k => if_neg hc) h
theorem ev_bind0 {α β : Type} {g : Option α} {f : Nat → α → Option β} {a : α} {r : β} (h : g = some a) (k : Ev (fun n => f n a) r) : Ev (fun n => g.bind (f n)) r := Ev.congr (fun n => by rw [h]; rfl) k
theorem ev_conv {α : Type} {g : Nat → Option α} {r r' : α} (h : Ev g r) (e : r = r') : Ev g r' := e ▸ h
theorem drop_cons_getD {α : Type} (d : α) {xs : List α} {i : Nat} (h : i < xs.length) : xs.drop i = xs.getD i d :: xs.drop (i + 1) := by
 rw [List.drop_eq_getElem_cons h, List.getD_eq_getElem?_getD, List.getElem?_eq_getElem h]
 rfl
theorem getD_mem {α : Type} (d : α) {xs : List α} {i : Nat} (h : i < xs.length) : xs.getD i d ∈ xs := by
 rw [List.getD_eq_getElem?_getD, List.getElem?_eq_getElem h]
 exact List.getElem_mem h
def mkB (l : List UInt8) : ByteArray := ⟨l.toArray⟩
theorem mkB_data (l : List UInt8) : (mkB l).data.toList = l := rfl
theorem mkB_size (l : List UInt8) : (mkB l).size = l.length := by simp [mkB, ByteArray.size]
theorem mkB_of (s : ByteArray) : mkB s.data.toList = s := by cases s; simp [mkB]
theorem mkB_append (a b : List UInt8) : mkB a ++ mkB b = mkB (a ++ b) := by
 apply ByteArray.ext
 simp [mkB]
theorem toList_mkB (l : List UInt8) : (mkB l).toList = l := by rw [ByteArray.toList_eq]; rfl
theorem toList_data (s : ByteArray) : s.toList = s.data.toList := ByteArray.toList_eq s
theorem size_data (s : ByteArray) : s.size = s.data.toList.length := by rw [Array.length_toList]; rfl
def u8 (n : Int) : UInt8 := UInt8.ofNat n.toNat
theorem strOfNums_mk (xs : List Int) : strOfNums xs = mkB (xs.map u8) := rfl
theorem or_low (x : Int) (c : Nat) (hc : c < 256) (hx : x % 256 = 0) : bits .or .i64 x (c : Int) = wrap64 (x + c) := by
 have e : bits .or .i64 x (c : Int) = IntKind.i64.wrap (((BitVec.ofInt 64 x) ||| (BitVec.ofInt 64 (c : Int))).toNat : Int) := rfl
 rw [e, BitVec.toNat_or, BitVec.toNat_ofInt, BitVec.ofInt_natCast, BitVec.toNat_ofNat, Nat.mod_eq_of_lt (show c < 2 ^ 64 by omega)]
 obtain ⟨A, hA⟩ : ∃ A : Nat, A = (x % 18446744073709551616).toNat := ⟨_, rfl⟩
 have hA' : (x % ((2 ^ 64 : Nat) : Int)).toNat = A := by rw [hA]; rfl
 rw [hA']
 have hA0 : (A : Int) = x % 18446744073709551616 := by rw [hA]; omega
 have hA1 : A % 256 = 0 := by omega
 have hq : A = 2 ^ 8 * (A / 2 ^ 8) := by omega
 have hor : A ||| c = A + c := by
  rw [hq, ← Nat.two_pow_add_eq_or_of_lt (show c < 2 ^ 8 by omega) (A / 2 ^ 8)]
 rw [hor, IntKind.wrap_i64]
 unfold wrap64
 omega
def beN (l : List UInt8) : Nat := l.foldl (fun n c => n * 256 + c.toNat) 0
theorem beN_snoc (l : List UInt8) (c : UInt8) : beN (l ++ [c]) = beN l * 256 + c.toNat := by simp [beN]
theorem be_step (n : Int) (c : Nat) (hc : c < 256) : bits .or .i64 (wrap64 (wrap64 n * 256)) (c : Int) = wrap64 (n * 256 + c) := by
 rw [or_low _ c hc (by unfold wrap64; omega)]
 unfold wrap64
 omega
theorem snoc_ind {α : Type} {p : List α → Prop} (h0 : p []) (h1 : ∀ l a, p l → p (l ++ [a])) (l : List α) : p l := by
 have h : ∀ m : List α, p m.reverse := by
  intro m
  induction m with
  | nil => exact h0
  | cons a m ih => rw [List.reverse_cons]; exact h1 _ _ ih
 have := h l.reverse
 rwa [List.reverse_reverse] at this
theorem beN_lt (l : List UInt8) : beN l < 256 ^ l.length := by
 refine snoc_ind (p := fun l => beN l < 256 ^ l.length) (by simp [beN]) (fun l c ih => ?_) l
 show beN (l ++ [c]) < 256 ^ (l ++ [c]).length
 rw [beN_snoc, List.length_append, List.length_singleton, Nat.pow_succ]
 have := c.toNat_lt
 omega
theorem beN_nil : beN [] = 0 := rfl
theorem beN_one (c : UInt8) : beN [c] = c.toNat := by simp [beN]
theorem bt_data (s : ByteArray) (i : Int) : bt s i = ((s.data.toList.getD i.toNat 0).toNat : Int) := by
 unfold bt
 split
 ·rename_i h
  rw [List.getD_eq_getElem?_getD, List.getElem?_eq_getElem (by simpa using h)]
  rfl
 ·rename_i h
  rw [List.getD_eq_getElem?_getD, List.getElem?_eq_none (by simp; omega)]
  rfl
theorem extract_mk (s : ByteArray) (a b : Nat) : s.extract a b = mkB ((s.data.toList.drop a).take (b - a)) := by
 rw [← mkB_of (s.extract a b), Go.Lib.extract_data]
def getV : List UInt8 → Option ((Int × Int × List UInt8) × Nat)
 | [] => none
 | c :: t =>
  if c.toNat = 1 then (if 8 ≤ t.length then some ((1, wrap64 (beN (t.take 8) : Int), []), 9) else none)
  else if c.toNat = 2 then (match t with | [] => none | b :: _ => if b.toNat ≤ 1 then some ((2, (b.toNat : Int), []), 2) else none)
  else if c.toNat = 3 then (match t with | [] => none | m :: u => if m.toNat ≤ 100 ∧ m.toNat ≤ u.length then some ((3, 0, u.take m.toNat), 2 + m.toNat) else none)
  else if c.toNat = 0 then some ((0, 0, []), 1) else none
def packV (i : Nat) : Option ((Int × Int × List UInt8) × Nat) → Int × Int × ByteArray × Int
 | some ((a, b, x), n) => (a, b, mkB x, ((i + n : Nat) : Int))
 | none => (0, 0, mkB [], -1)
def getAt (s : ByteArray) (i : Int) : Int × Int × ByteArray × Int := if 0 ≤ i ∧ i ≤ (s.size : Int) then packV i.toNat (getV (s.data.toList.drop i.toNat)) else (0, 0, mkB [], -1)
theorem all_loop (n : Nat) (L : Nat → Int → Option Bool) (good : Nat → Prop) (tail : Prop)
  (hend : ∀ r : Bool, (r = true ↔ tail) → Ev (fun k => L k (n : Int)) r)
  (hstep : ∀ i, i < n → ∀ r : Bool, (good i → Ev (fun k => L k ((i + 1 : Nat) : Int)) r) → (¬ good i → r = false) → Ev (fun k => L k (i : Int)) r)
  (r : Bool) (hr : r = true ↔ (∀ j, j < n → good j) ∧ tail) : Ev (fun k => L k 0) r := by
 have h : ∀ (m i : Nat) (r : Bool), n - i = m → i ≤ n → (r = true ↔ (∀ j, i ≤ j → j < n → good j) ∧ tail) → Ev (fun k => L k (i : Int)) r := by
  intro m
  induction m with
  | zero =>
   intro i r h1 h2 hr
   obtain rfl : i = n := by omega
   exact hend r (hr.trans ⟨fun h => h.2, fun h => ⟨fun j _ _ => by omega, h⟩⟩)
  | succ m ih =>
   intro i r h1 h2 hr
   refine hstep i (by omega) r (fun g => ih (i + 1) r (by omega) (by omega) (hr.trans ⟨fun h => ⟨fun j hj hj' => h.1 j (by omega) hj', h.2⟩, fun h => ⟨fun j hj hj' => ?_, h.2⟩⟩)) fun g => ?_
   ·by_cases e : j = i
    ·exact e ▸ g
    ·exact h.1 j (by omega) hj'
   ·cases r with
    | false => rfl
    | true => exact absurd ((hr.1 rfl).1 i (Nat.le_refl _) (by omega)) g
 exact h n 0 r rfl (Nat.zero_le _) (hr.trans ⟨fun h => ⟨fun j _ hj => h.1 j hj, h.2⟩, fun h => ⟨fun j hj => h.1 j (Nat.zero_le _) hj, h.2⟩⟩)
theorem wrap_pred {i : Nat} (h : 0 < i) (hn : i ≤ 9223372036854775807) : wrap64 ((i : Int) - 1) = ((i - 1 : Nat) : Int) := by
 rw [wrap_id (by omega) (by omega)]
 omega
theorem forall_getD {α : Type} (d : α) {xs : List α} {p : α → Prop} : (∀ j, j < xs.length → p (xs.getD j d)) ↔ ∀ x ∈ xs, p x := by
 constructor
 ·intro h x hx
  obtain ⟨j, hj, rfl⟩ := List.getElem_of_mem hx
  have := h j hj
  rwa [List.getD_eq_getElem?_getD, List.getElem?_eq_getElem hj] at this
 ·intro h j hj
  exact h _ (getD_mem d hj)
theorem sum_le_of_mem0 {α : Type} (f : α → Nat) {l : List α} {x : α} (h : x ∈ l) : f x ≤ (l.map f).sum := by
 induction l with
 | nil => cases h
 | cons a l ih =>
  rw [List.map_cons, List.sum_cons]
  rcases List.mem_cons.1 h with rfl | h
  ·omega
  ·have := ih h
   omega
end Go.Proofs.YtoajedijckkjjaaGreatDoor.ZFnBagBytes
