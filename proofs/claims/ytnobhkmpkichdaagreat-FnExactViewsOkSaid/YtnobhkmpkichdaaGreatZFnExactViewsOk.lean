/- Plain lemmas on loops by rounds: no program in sight. -/
import Derived.Test.YtnobhkmpkichdaaGreatWWords
import Derived.Laws.BitsLemmas
import Derived.Lib.Strings
namespace Go.Proofs.YtnobhkmpkichdaaGreat.ZFnExactViewsOk
open Go.RowKit Go.Proofs.YtnobhkmpkichdaaGreatW.PrintWords
set_option linter.unusedVariables false
theorem aDl {x : Int} (h : -9223372036854775808 ≤ x) (h' : x ≤ 9223372036854775807) : wrap64 x = x := by unfold wrap64; omega
theorem aBk {i n : Nat} (h : i < n) (hn : n ≤ 9223372036854775807) : wrap64 ((i : Int) + 1) = ((i + 1 : Nat) : Int) := by
 rw [aDl (by omega) (by omega)]
 omega
theorem aAf {α : Type} {g : Nat → Option α} {r : α} (h : ∀ k, g k = some r) : Ev g r := ⟨0, fun k _ => h k⟩
theorem aAb {α : Type} {c : Prop} [Decidable c] {g f : Nat → Option α} {r : α} (hc : c) (h : Ev g r) : Ev (fun k => if c then g k else f k) r := Ev.congr (fun k => if_pos hc) h
theorem aAd {α : Type} {c : Prop} [Decidable c] {g f : Nat → Option α} {r : α} (hc : ¬ c) (h : Ev f r) : Ev (fun k => if c then g k else f k) r := Ev.congr (fun k => if_neg hc) h
theorem aBr {α β : Type} {g : Option α} {f : Nat → α → Option β} {a : α} {r : β} (h : g = some a) (k : Ev (fun n => f n a) r) : Ev (fun n => g.bind (f n)) r := Ev.congr (fun n => by rw [h]; rfl) k
theorem aAy {α : Type} {g : Nat → Option α} {r r' : α} (h : Ev g r) (e : r = r') : Ev g r' := e ▸ h
def lft (l : Int) (w : Nat) : Int := if (w : Int) ≤ l then l - w else -1
theorem aBl {l : Int} {w : Nat} (h : (w : Int) ≤ l) : lft l w = l - w := if_pos h
theorem aBd {l : Int} {w : Nat} (h : ¬ (w : Int) ≤ l) : lft l w = -1 := if_neg h
theorem aPo {l : Int} {w : Nat} (h : ¬ lft l w < 0) : (w : Int) ≤ l ∧ lft l w = l - w := by
 by_cases hw : (w : Int) ≤ l
 ·exact ⟨hw, aBl hw⟩
 ·rw [aBd hw] at h
  omega
theorem aBb {α : Type} (d : α) {xs : List α} {i : Nat} (h : i < xs.length) : xs.drop i = xs.getD i d :: xs.drop (i + 1) := by
 rw [List.drop_eq_getElem_cons h, List.getD_eq_getElem?_getD, List.getElem?_eq_getElem h]
 rfl
theorem aCd {α : Type} (d : α) {xs : List α} {i : Nat} (h : i < xs.length) : xs.getD i d ∈ xs := by
 rw [List.getD_eq_getElem?_getD, List.getElem?_eq_getElem h]
 exact List.getElem_mem h
theorem aUz {α : Type} (d : α) (L : Nat → List α → Int → Int → Option Int) (E : Nat → α → Int → Option Int) (wt : α → Nat)
  (hL : ∀ k xs l i, L (k + 1) xs l i = if i < (xs.length : Int) then (if 0 ≤ i then ((E k (xs.getD i.toNat d) l).bind fun t => if t < 0 then some (-1) else L k xs t (wrap64 (i + 1))) else none) else some l)
  (xs : List α) (hn : xs.length ≤ 9223372036854775807) (hE : ∀ x ∈ xs, ∀ l, 0 ≤ l → l ≤ 1048576 → Ev (fun k => E k x l) (lft l (wt x))) :
  ∀ (n i : Nat) (l : Int), xs.length - i = n → i ≤ xs.length → 0 ≤ l → l ≤ 1048576 → Ev (fun k => L k xs l i) (lft l ((xs.drop i).map wt).sum) := by
 intro n
 induction n with
 | zero =>
  intro i l h1 h2 h3 h4
  have e : i = xs.length := by omega
  refine Ev.step (fun k => hL k xs l i) (aAd (by omega) ?_)
  rw [e, List.drop_length]
  exact aAy (aAf fun _ => rfl) (by simp [lft, h3])
 | succ n ih =>
  intro i l h1 h2 h3 h4
  have hi : i < xs.length := by omega
  refine Ev.step (fun k => hL k xs l i) (aAb (by omega) (aAb (by omega) ?_))
  rw [aBb d hi, List.map_cons, List.sum_cons, Int.toNat_natCast]
  refine Ev.bind (hE _ (aCd d hi) l h3 h4) ?_
  by_cases hw : ((wt (xs.getD i d) : Nat) : Int) ≤ l
  ·rw [aBl hw, aBk hi hn]
   refine aAd (by omega) (aAy (ih (i + 1) _ (by omega) (by omega) (by omega) (by omega)) ?_)
   by_cases hr : (((xs.drop (i + 1)).map wt).sum : Int) ≤ l - (wt (xs.getD i d) : Nat)
   ·rw [aBl hr, aBl (by omega)]
    omega
   ·rw [aBd hr, aBd (by omega)]
  ·rw [aBd hw]
   exact aAb (by omega) (aAy (aAf fun _ => rfl) (aBd (by omega)).symm)
theorem aLv {α : Type} (d : α) (F : Nat → List α → Int → Option Int) (L : Nat → List α → Int → Int → Option Int) (E : Nat → α → Int → Option Int) (wt : α → Nat)
  (hF : ∀ k xs l, F k xs l = if wrap64 (l - (xs.length : Int)) < 0 then some (-1) else L k xs (wrap64 (l - (xs.length : Int))) 0)
  (hL : ∀ k xs l i, L (k + 1) xs l i = if i < (xs.length : Int) then (if 0 ≤ i then ((E k (xs.getD i.toNat d) l).bind fun t => if t < 0 then some (-1) else L k xs t (wrap64 (i + 1))) else none) else some l)
  (xs : List α) (hn : xs.length ≤ 9223372036854775807) (hE : ∀ x ∈ xs, ∀ l, 0 ≤ l → l ≤ 1048576 → Ev (fun k => E k x l) (lft l (wt x))) (l : Int) (h0 : 0 ≤ l) (h1 : l ≤ 1048576) :
  Ev (fun k => F k xs l) (lft l (xs.length + (xs.map wt).sum)) := by
 refine Ev.congr (fun k => hF k xs l) ?_
 rw [aDl (x := l - (xs.length : Int)) (by omega) (by omega)]
 by_cases h : l - (xs.length : Int) < 0
 ·exact aAb h (aAy (aAf fun _ => rfl) (aBd (by omega)).symm)
 ·refine aAd h (aAy (aUz d L E wt hL xs hn hE xs.length 0 _ (by omega) (by omega) (by omega) (by omega)) ?_)
  rw [List.drop_zero]
  by_cases hr : ((xs.map wt).sum : Int) ≤ l - (xs.length : Int)
  ·rw [aBl hr, aBl (by omega)]
   omega
  ·rw [aBd hr, aBd (by omega)]
theorem aSu {α β γ : Type} (d : α) (L : Nat → List α → List β → Int → Option (List β)) (E : Nat → α → Option γ) (mk : γ → β) (g : α → γ)
  (hL : ∀ k xs ys i, L (k + 1) xs ys i = if i < (xs.length : Int) then (if 0 ≤ i then ((E k (xs.getD i.toNat d)).bind fun b => if i < (ys.length : Int) then L k xs (ys.set i.toNat (mk b)) (wrap64 (i + 1)) else none) else none) else some ys)
  (xs : List α) (hn : xs.length ≤ 9223372036854775807) (hE : ∀ x ∈ xs, Ev (fun k => E k x) (g x)) :
  ∀ (n i : Nat) (ys : List β), xs.length - i = n → i ≤ xs.length → ys.length = xs.length → Ev (fun k => L k xs ys i) (ys.take i ++ (xs.drop i).map (fun x => mk (g x))) := by
 intro n
 induction n with
 | zero =>
  intro i ys h1 h2 h3
  have e : i = xs.length := by omega
  refine Ev.step (fun k => hL k xs ys i) (aAd (by omega) (aAy (aAf fun _ => rfl) ?_))
  rw [e, List.drop_length, ← h3, List.take_length]
  simp
 | succ n ih =>
  intro i ys h1 h2 h3
  have hi : i < xs.length := by omega
  refine Ev.step (fun k => hL k xs ys i) (aAb (by omega) (aAb (by omega) ?_))
  rw [Int.toNat_natCast]
  refine Ev.bind (hE _ (aCd d hi)) (aAb (by omega) ?_)
  rw [aBk hi hn]
  refine aAy (ih (i + 1) _ (by omega) (by omega) (by simpa using h3)) ?_
  rw [aBb d hi, List.map_cons, List.take_succ_eq_append_getElem (by simp; omega)]
  simp [List.take_set_of_le]
theorem aIs {α β γ : Type} (d : α) (z : β) (F : Nat → List α → Option (List β)) (L : Nat → List α → List β → Int → Option (List β)) (E : Nat → α → Option γ) (mk : γ → β) (g : α → γ) (B : Nat)
  (hF : ∀ k xs, F k xs = if 0 ≤ (xs.length : Int) then (if ((xs.length : Int) : Int).toNat ≤ B then L k xs (List.replicate ((xs.length : Int) : Int).toNat z) 0 else none) else none)
  (hL : ∀ k xs ys i, L (k + 1) xs ys i = if i < (xs.length : Int) then (if 0 ≤ i then ((E k (xs.getD i.toNat d)).bind fun b => if i < (ys.length : Int) then L k xs (ys.set i.toNat (mk b)) (wrap64 (i + 1)) else none) else none) else some ys)
  (xs : List α) (hn : xs.length ≤ B) (hB : B ≤ 9223372036854775807) (hE : ∀ x ∈ xs, Ev (fun k => E k x) (g x)) : Ev (fun k => F k xs) (xs.map (fun x => mk (g x))) := by
 refine Ev.congr (fun k => hF k xs) (aAb (by omega) (aAb (by simpa using hn) ?_))
 exact aAy (aSu d L E mk g hL xs (by omega) hE xs.length 0 _ (by omega) (by omega) (by simp)) (by simp)
theorem aVr {α : Type} (d : α) (L : Nat → List α → List α → Int → Option Bool) (E : Nat → α → α → Option Bool)
  (hL : ∀ k xs ys i, L (k + 1) xs ys i = if i < (xs.length : Int) then (if 0 ≤ i then (if i < (ys.length : Int) then ((E k (xs.getD i.toNat d) (ys.getD i.toNat d)).bind fun t => if t = true then L k xs ys (wrap64 (i + 1)) else some false) else none) else none) else some true)
  (xs : List α) (hn : xs.length ≤ 9223372036854775807) (hE : ∀ x ∈ xs, Ev (fun k => E k x x) true) :
  ∀ (n i : Nat), xs.length - i = n → i ≤ xs.length → Ev (fun k => L k xs xs i) true := by
 intro n
 induction n with
 | zero => exact fun i h1 h2 => Ev.step (fun k => hL k xs xs i) (aAd (by omega) (aAf fun _ => rfl))
 | succ n ih =>
  intro i h1 h2
  have hi : i < xs.length := by omega
  refine Ev.step (fun k => hL k xs xs i) (aAb (by omega) (aAb (by omega) (aAb (by omega) ?_)))
  rw [Int.toNat_natCast]
  refine Ev.bind (hE _ (aCd d hi)) (aAb rfl ?_)
  rw [aBk hi hn]
  exact ih (i + 1) (by omega) (by omega)
theorem aLc {α : Type} (d : α) (F : Nat → List α → List α → Option Bool) (L : Nat → List α → List α → Int → Option Bool) (E : Nat → α → α → Option Bool)
  (hF : ∀ k xs ys, F k xs ys = if (xs.length : Int) = (ys.length : Int) then L k xs ys 0 else some false)
  (hL : ∀ k xs ys i, L (k + 1) xs ys i = if i < (xs.length : Int) then (if 0 ≤ i then (if i < (ys.length : Int) then ((E k (xs.getD i.toNat d) (ys.getD i.toNat d)).bind fun t => if t = true then L k xs ys (wrap64 (i + 1)) else some false) else none) else none) else some true)
  (xs : List α) (hn : xs.length ≤ 9223372036854775807) (hE : ∀ x ∈ xs, Ev (fun k => E k x x) true) : Ev (fun k => F k xs xs) true :=
 Ev.congr (fun k => hF k xs xs) (aAb rfl (aVr d L E hL xs hn hE xs.length 0 (by omega) (by omega)))
def mkB (l : List UInt8) : ByteArray := ⟨l.toArray⟩
theorem aQf (l : List UInt8) : (mkB l).toList = l := by rw [ByteArray.toList_eq]; rfl
theorem toList_data (s : ByteArray) : s.toList = s.data.toList := ByteArray.toList_eq s
theorem size_data (s : ByteArray) : s.size = s.data.toList.length := by rw [Array.length_toList]; rfl
def u8 (n : Int) : UInt8 := UInt8.ofNat n.toNat
theorem aEy (n : Nat) (L : Nat → Int → Option Bool) (good : Nat → Prop) (tail : Prop)
  (hend : ∀ r : Bool, (r = true ↔ tail) → Ev (fun k => L k (n : Int)) r)
  (hstep : ∀ i, i < n → ∀ r : Bool, (good i → Ev (fun k => L k ((i + 1 : Nat) : Int)) r) → (¬ good i → r = false) → Ev (fun k => L k (i : Int)) r)
  (r : Bool) (hr : r = true ↔ (∀ j, j < n → good j) ∧ tail) : Ev (fun k => L k 0) r := by
 have h : ∀ (m i : Nat) (r : Bool), n - i = m → i ≤ n → (r = true ↔ (∀ j, i ≤ j → j < n → good j) ∧ tail) → Ev (fun k => L k (i : Int)) r := by
  intro m
  induction m with
  | zero =>
   intro i r h1 h2 hr
   obtain rfl : i = n := by omega
   exact hend r (hr.trans ⟨fun h => h.2, fun h => ⟨fun j _ _ => by omega, h⟩⟩)
  | succ m ih =>
   intro i r h1 h2 hr
   refine hstep i (by omega) r (fun g => ih (i + 1) r (by omega) (by omega) (hr.trans ⟨fun h => ⟨fun j hj hj' => h.1 j (by omega) hj', h.2⟩, fun h => ⟨fun j hj hj' => ?_, h.2⟩⟩)) fun g => ?_
   ·by_cases e : j = i
    ·exact e ▸ g
    ·exact h.1 j (by omega) hj'
   ·cases r with
    | false => rfl
    | true => exact absurd ((hr.1 rfl).1 i (Nat.le_refl _) (by omega)) g
 exact h n 0 r rfl (Nat.zero_le _) (hr.trans ⟨fun h => ⟨fun j _ hj => h.1 j hj, h.2⟩, fun h => ⟨fun j hj => h.1 j (Nat.zero_le _) hj, h.2⟩⟩)
theorem aFg {i : Nat} (h : 0 < i) (hn : i ≤ 9223372036854775807) : wrap64 ((i : Int) - 1) = ((i - 1 : Nat) : Int) := by
 rw [aDl (by omega) (by omega)]
 omega
theorem aDw {α : Type} (d : α) {xs : List α} {p : α → Prop} : (∀ j, j < xs.length → p (xs.getD j d)) ↔ ∀ x ∈ xs, p x := by
 constructor
 ·intro h x hx
  obtain ⟨j, hj, rfl⟩ := List.getElem_of_mem hx
  have := h j hj
  rwa [List.getD_eq_getElem?_getD, List.getElem?_eq_getElem hj] at this
 ·intro h j hj
  exact h _ (aCd d hj)
theorem aEl {α : Type} {P : Nat → α → Prop} : ∀ {xs : List α}, (∀ y ∈ xs, ∃ K, ∀ k, K ≤ k → P k y) → ∃ K, ∀ k, K ≤ k → ∀ y ∈ xs, P k y
 | [], _ => ⟨0, fun _ _ y hy => by cases hy⟩
 | x :: xs, h => by
  obtain ⟨K, hK⟩ := h x (by simp)
  obtain ⟨K', hK'⟩ := aEl (xs := xs) (P := P) fun y hy => h y (by simp [hy])
  refine ⟨max K K', fun k hk y hy => ?_⟩
  rcases List.mem_cons.1 hy with rfl | hy
  ·exact hK k (by omega)
  ·exact hK' k (by omega) y hy
theorem aDe {α : Type} (f : α → Nat) {l : List α} {x : α} (h : x ∈ l) : f x ≤ (l.map f).sum := by
 induction l with
 | nil => cases h
 | cons a l ih =>
  rw [List.map_cons, List.sum_cons]
  rcases List.mem_cons.1 h with rfl | h
  ·omega
  ·have := ih h
   omega
theorem aLr {α : Type} (d : α) (F : Nat → List α → Int → Option Int) (L : Nat → List α → Int → Int → Option Int) (E : α → Int → Option Int) (wt : α → Nat)
  (hF : ∀ k xs l, F k xs l = if wrap64 (l - (xs.length : Int)) < 0 then some (-1) else L k xs (wrap64 (l - (xs.length : Int))) 0)
  (hL : ∀ k xs l i, L (k + 1) xs l i = if i < (xs.length : Int) then (if 0 ≤ i then ((E (xs.getD i.toNat d) l).bind fun t => if t < 0 then some (-1) else L k xs t (wrap64 (i + 1))) else none) else some l)
  (xs : List α) (hn : xs.length ≤ 9223372036854775807) (hE : ∀ x ∈ xs, ∀ l, 0 ≤ l → l ≤ 1048576 → E x l = some (lft l (wt x))) (k : Nat) (hk : xs.length < k) (l : Int) (h0 : 0 ≤ l) (h1 : l ≤ 1048576) :
  F k xs l = some (lft l (xs.length + (xs.map wt).sum)) := by
 have loop : ∀ (n i k : Nat) (l : Int), xs.length - i = n → i ≤ xs.length → n < k → 0 ≤ l → l ≤ 1048576 → L k xs l i = some (lft l ((xs.drop i).map wt).sum) := by
  intro n
  induction n with
  | zero =>
   intro i k l a1 a2 a3 a4 a5
   obtain ⟨k, rfl⟩ : ∃ m, k = m + 1 := ⟨k - 1, by omega⟩
   rw [hL, if_neg (by omega), show i = xs.length by omega, List.drop_length]
   simp [lft, a4]
  | succ n ih =>
   intro i k l a1 a2 a3 a4 a5
   obtain ⟨k, rfl⟩ : ∃ m, k = m + 1 := ⟨k - 1, by omega⟩
   have hi : i < xs.length := by omega
   rw [hL, if_pos (by omega), if_pos (by omega), aBb d hi, List.map_cons, List.sum_cons, Int.toNat_natCast, hE _ (aCd d hi) l a4 a5, Option.bind_some]
   by_cases hw : ((wt (xs.getD i d) : Nat) : Int) ≤ l
   ·rw [aBl hw, if_neg (by omega), aBk hi hn, ih (i + 1) k _ (by omega) (by omega) (by omega) (by omega) (by omega)]
    congr 1
    by_cases hr : (((xs.drop (i + 1)).map wt).sum : Int) ≤ l - (wt (xs.getD i d) : Nat)
    ·rw [aBl hr, aBl (by omega)]
     omega
    ·rw [aBd hr, aBd (by omega)]
   ·rw [aBd hw, if_pos (by omega), aBd (by omega)]
 rw [hF, aDl (x := l - (xs.length : Int)) (by omega) (by omega)]
 by_cases h : l - (xs.length : Int) < 0
 ·rw [if_pos h, aBd (by omega)]
 ·rw [if_neg h, show (0 : Int) = ((0 : Nat) : Int) from rfl, loop xs.length 0 k _ (by omega) (by omega) (by omega) (by omega) (by omega), List.drop_zero]
  congr 1
  by_cases hr : ((xs.map wt).sum : Int) ≤ l - (xs.length : Int)
  ·rw [aBl hr, aBl (by omega)]
   omega
  ·rw [aBd hr, aBd (by omega)]
theorem aJs {α β γ : Type} (d : α) (z : β) (F : Nat → List α → Option (List β)) (L : Nat → List α → List β → Int → Option (List β)) (E : α → Option γ) (mk : γ → β) (g : α → γ) (B : Nat)
  (hF : ∀ k xs, F k xs = if 0 ≤ (xs.length : Int) then (if ((xs.length : Int) : Int).toNat ≤ B then L k xs (List.replicate ((xs.length : Int) : Int).toNat z) 0 else none) else none)
  (hL : ∀ k xs ys i, L (k + 1) xs ys i = if i < (xs.length : Int) then (if 0 ≤ i then ((E (xs.getD i.toNat d)).bind fun b => if i < (ys.length : Int) then L k xs (ys.set i.toNat (mk b)) (wrap64 (i + 1)) else none) else none) else some ys)
  (xs : List α) (hn : xs.length ≤ B) (hB : B ≤ 9223372036854775807) (hE : ∀ x ∈ xs, E x = some (g x)) (k : Nat) (hk : xs.length < k) : F k xs = some (xs.map (fun x => mk (g x))) := by
 have loop : ∀ (n i k : Nat) (ys : List β), xs.length - i = n → i ≤ xs.length → ys.length = xs.length → n < k → L k xs ys i = some (ys.take i ++ (xs.drop i).map (fun x => mk (g x))) := by
  intro n
  induction n with
  | zero =>
   intro i k ys h1 h2 h3 h4
   obtain ⟨k, rfl⟩ : ∃ m, k = m + 1 := ⟨k - 1, by omega⟩
   rw [hL, if_neg (by omega), show i = xs.length by omega, List.drop_length, ← h3, List.take_length]
   simp
  | succ n ih =>
   intro i k ys h1 h2 h3 h4
   obtain ⟨k, rfl⟩ : ∃ m, k = m + 1 := ⟨k - 1, by omega⟩
   have hi : i < xs.length := by omega
   rw [hL, if_pos (by omega), if_pos (by omega), Int.toNat_natCast, hE _ (aCd d hi), Option.bind_some, if_pos (by omega), aBk hi (by omega), ih (i + 1) k _ (by omega) (by omega) (by simpa using h3) (by omega)]
   congr 1
   rw [aBb d hi, List.map_cons, List.take_succ_eq_append_getElem (by simp; omega)]
   simp [List.take_set_of_le]
 rw [hF, if_pos (by omega), if_pos (by simpa using hn), show (0 : Int) = ((0 : Nat) : Int) from rfl, loop xs.length 0 k _ (by omega) (by omega) (by simp) (by omega)]
 simp
theorem aLp {α : Type} (d : α) (F : Nat → List α → List α → Option Bool) (L : Nat → List α → List α → Int → Option Bool) (E : α → α → Option Bool)
  (hF : ∀ k xs ys, F k xs ys = if (xs.length : Int) = (ys.length : Int) then L k xs ys 0 else some false)
  (hL : ∀ k xs ys i, L (k + 1) xs ys i = if i < (xs.length : Int) then (if 0 ≤ i then (if i < (ys.length : Int) then ((E (xs.getD i.toNat d) (ys.getD i.toNat d)).bind fun t => if t = true then L k xs ys (wrap64 (i + 1)) else some false) else none) else none) else some true)
  (xs : List α) (hn : xs.length ≤ 9223372036854775807) (hE : ∀ x ∈ xs, E x x = some true) (k : Nat) (hk : xs.length < k) : F k xs xs = some true := by
 have loop : ∀ (n i k : Nat), xs.length - i = n → i ≤ xs.length → n < k → L k xs xs i = some true := by
  intro n
  induction n with
  | zero =>
   intro i k h1 h2 h3
   obtain ⟨k, rfl⟩ : ∃ m, k = m + 1 := ⟨k - 1, by omega⟩
   rw [hL, if_neg (by omega)]
  | succ n ih =>
   intro i k h1 h2 h3
   obtain ⟨k, rfl⟩ : ∃ m, k = m + 1 := ⟨k - 1, by omega⟩
   have hi : i < xs.length := by omega
   rw [hL, if_pos (by omega), if_pos (by omega), if_pos (by omega), Int.toNat_natCast, hE _ (aCd d hi), Option.bind_some, if_pos rfl, aBk hi hn]
   exact ih (i + 1) k (by omega) (by omega) (by omega)
 rw [hF, if_pos rfl]
 exact loop xs.length 0 k (by omega) (by omega) (by omega)
end Go.Proofs.YtnobhkmpkichdaaGreat.ZFnExactViewsOk
