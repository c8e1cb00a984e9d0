/- Plain lemmas on what the functions of the law FnExactViewsOk compute: numbers and lists alone. -/
import Derived.Test.YtnobhkmpkichdaaGreatPFnExactViewsOkx0
import Derived.Test.YtnobhkmpkichdaaGreatPFnExactViewsOkx1
import Derived.Test.YtnobhkmpkichdaaGreatPFnExactViewsOkx2
import Derived.Test.YtnobhkmpkichdaaGreatPFnExactViewsOkx3
import Derived.Test.YtnobhkmpkichdaaGreatPFnExactViewsOkx4
import Derived.Test.YtnobhkmpkichdaaGreatPFnExactViewsOkx5
import Derived.Test.YtnobhkmpkichdaaGreatPFnExactViewsOkx6
import Derived.Test.YtnobhkmpkichdaaGreatPFnExactViewsOkx7
import Derived.Test.YtnobhkmpkichdaaGreatPFnExactViewsOkx8
import Derived.Test.YtnobhkmpkichdaaGreatPFnExactViewsOkx9
import Derived.Test.YtnobhkmpkichdaaGreatPFnExactViewsOkx10
import Derived.Test.YtnobhkmpkichdaaGreatPFnExactViewsOkx11
import Derived.Test.YtnobhkmpkichdaaGreatOpen
import Derived.Test.YtnobhkmpkichdaaGreatZFnExactViewsOk
namespace Go.Proofs.YtnobhkmpkichdaaGreat.PFnExactViewsOk
open Go.RowKit Go.Proofs.YtnobhkmpkichdaaGreatW.PrintWords Go.Proofs.YtnobhkmpkichdaaGreatW.PrintLast Go.Proofs.YtnobhkmpkichdaaGreatW.PrintMore Go.Proofs.YtnobhkmpkichdaaGreatOpen Go.Proofs.YtnobhkmpkichdaaGreat.ZFnExactViewsOk
set_option linter.unusedVariables false
set_option linter.unusedSimpArgs false
theorem aLa (a b : Int) (s : ByteArray) (l : Int) (h0 : 0 ≤ l) (h1 : l ≤ 1048576) (hs : s.size ≤ 9223372036854775807) : gX.f a b s l = some (lft l s.size) := by
  unfold gX.f
  rw [aDl (x := l - (s.size : Int)) (by omega) (by omega)]
  by_cases h : l - (s.size : Int) < 0
  · rw [if_pos h, aBd (by omega)]
  · rw [if_neg h, aBl (by omega)]
theorem aOk (l m : List UInt8) : Go.Lib.compareBytes l m = if Op.bytesLess l m = true then -1 else if (Op.bytesLess l m || l == m) = true then 0 else 1 := by
  induction l generalizing m with
  | nil => cases m <;> simp [Go.Lib.compareBytes, Op.bytesLess]
  | cons a l ih =>
    cases m with
    | nil => simp [Go.Lib.compareBytes, Op.bytesLess]
    | cons b m =>
      simp only [Go.Lib.compareBytes, Op.bytesLess]
      by_cases h : a < b
      · simp [h]
      · by_cases h' : b < a
        · have hne : ¬ a = b := by rintro rfl; exact absurd h' h
          simp [h, h', hne]
        · have e : a = b := by
            apply UInt8.toNat_inj.1
            have h1 : ¬ a.toNat < b.toNat := h
            have h2 : ¬ b.toNat < a.toNat := h'
            omega
          subst e
          simp only [h, if_false, ih]
          simp
def aYq (a b : Int) : Int := if a < b then -1 else if b < a then 1 else 0
theorem aKd (a b : Int) : cmp_Compare_int.f a b = some (aYq a b) := by
  unfold cmp_Compare_int.f cmp_isNaN_int.f aYq
  simp only [Option.bind_some, bne_self_eq_false, Bool.false_eq_true, if_false, gt_iff_lt]
  by_cases h : a < b
  · simp [h]
  · by_cases h' : b < a <;> simp [h, h']
theorem aTe (k : Nat) (a b c : Int) : aBv.f (k + 4) [a, b, c] = some (if a = 0 then (if b = 0 then c else b) else a) := by
  have w0 : wrap64 (0 + 1) = 1 := by unfold wrap64; omega
  have w1 : wrap64 (1 + 1) = 2 := by unfold wrap64; omega
  have w2 : wrap64 (2 + 1) = 3 := by unfold wrap64; omega
  unfold aBv.f
  simp only [aBv.l0, List.length_cons, List.length_nil, w0, w1, w2, rd]
  by_cases ha : a = 0
  · by_cases hb : b = 0
    · by_cases hc : c = 0
      · simp [ha, hb, hc]
      · simp [ha, hb, hc]
    · simp [ha, hb]
  · simp [ha]
theorem aJa (k : Nat) (a b : Int) (s : ByteArray) (a' b' : Int) (s' : ByteArray) : dX.f (k + 4) a b s a' b' s' = some (aWp a b s a' b' s') := by
  unfold dX.f strings_Compare.f bytealg_CompareString.f
  simp only [aKd, Option.bind_some, aTe, aOk]
  unfold aWp aYq
  have hd : ∀ z : ByteArray, z.toList = z.data.toList := fun z => ByteArray.toList_eq z
  rw [hd, hd]
  by_cases h1 : a < a'
  · simp [h1]
  · by_cases h2 : a' < a
    · simp [h1, h2]
    · by_cases h3 : b < b'
      · simp [h1, h2, h3]
      · by_cases h4 : b' < b
        · simp [h1, h2, h3, h4]
        · simp [h1, h2, h3, h4]
def wtV (x : S24) : Nat := x.f2.size
def aWl (l : List S24) : Nat := l.length + (l.map wtV).sum
theorem aOc (xs : List S24) (hn : xs.length ≤ 9223372036854775807) (hx : ∀ x ∈ xs, x.f2.size ≤ 9223372036854775807) (l : Int) (h0 : 0 ≤ l) (h1 : l ≤ 1048576) : Ev (fun k => fI.f k xs l) (lft l (aWl xs)) :=
  aLv z24 fI.f fI.l0 (fun _ x l => gX.f x.f0 x.f1 x.f2 l) wtV (fun _ _ _ => rfl) (fun _ _ _ _ => rfl) xs hn (fun x hx' l h0 h1 => aAf fun _ => aLa _ _ _ l h0 h1 (hx x hx')) l h0 h1
def toV (x : S24) : S36 := ⟨x.f0, x.f1, x.f2⟩
theorem aNt (xs : List S24) (hn : xs.length ≤ 8796093022208) : Ev (fun k => fD.f k xs) (xs.map toV) :=
  aIs z24 z36 fD.f fD.l0 (fun _ x => mD.f x.f0 x.f1 x.f2) (fun bt => (⟨bt.1, bt.2.1, bt.2.2⟩ : S36)) (fun x => (x.f0, x.f1, x.f2)) 8796093022208 (fun _ _ => rfl) (fun _ _ _ _ => rfl) xs hn (by omega) (fun x _ => aAf fun _ => rfl)
theorem aNb (a b : Int) (s : ByteArray) : iH.f a b s a b s = some true := by simp [iH.f]
theorem aLh (xs : List S36) (hn : xs.length ≤ 9223372036854775807) : Ev (fun k => d9.f k xs xs) true :=
  aLc z36 d9.f d9.l0 (fun _ x y => iH.f x.f0 x.f1 x.f2 y.f0 y.f1 y.f2) (fun _ _ _ => rfl) (fun _ _ _ _ => rfl) xs hn (fun x _ => aAf fun _ => aNb _ _ _)
def wtC (x : S136) : Nat := aWl x.f0
def aNm (l : List S136) : Nat := l.length + (l.map wtC).sum
def okC (x : S136) : Prop := x.f0.length ≤ 9223372036854775807 ∧ ∀ y ∈ x.f0, y.f2.size ≤ 9223372036854775807
theorem aMy (a : List S24) (n : Int) (hn : a.length ≤ 9223372036854775807) (hx : ∀ x ∈ a, x.f2.size ≤ 9223372036854775807) (l : Int) (h0 : 0 ≤ l) (h1 : l ≤ 1048576) : Ev (fun k => lD.f k a n l) (lft l (aWl a)) := by
  refine Ev.congr (fun k => rfl) (Ev.bind (aOc a hn hx l h0 h1) (f := fun k t => if t < 0 then some (-1) else some t) ?_)
  by_cases h : (aWl a : Int) ≤ l
  · exact aAd (by rw [aBl h]; omega) (aAf fun _ => rfl)
  · rw [aBd h]
    exact aAb (by omega) (aAf fun _ => rfl)
theorem aMc (xs : List S136) (hn : xs.length ≤ 9223372036854775807) (hx : ∀ x ∈ xs, okC x) (l : Int) (h0 : 0 ≤ l) (h1 : l ≤ 1048576) : Ev (fun k => eG.f k xs l) (lft l (aNm xs)) :=
  aLv aXd eG.f eG.l0 (fun k x l => lD.f k x.f0 x.f1 l) wtC (fun _ _ _ => rfl) (fun _ _ _ _ => rfl) xs hn (fun x hx' l h0 h1 => aMy _ _ (hx x hx').1 (hx x hx').2 l h0 h1) l h0 h1
theorem aPd (w : Int) (xs : List S136) (hn : xs.length ≤ 9223372036854775807) (hx : ∀ x ∈ xs, okC x) (l : Int) (h0 : 0 ≤ l) (h1 : l ≤ 1048576) : Ev (fun k => kX.f k w xs l) (lft l (aNm xs)) := by
  refine Ev.congr (fun k => rfl) (Ev.bind (aMc xs hn hx l h0 h1) (f := fun k t => if t < 0 then some (-1) else some t) ?_)
  by_cases h : (aNm xs : Int) ≤ l
  · exact aAd (by rw [aBl h]; omega) (aAf fun _ => rfl)
  · rw [aBd h]
    exact aAb (by omega) (aAf fun _ => rfl)
theorem aFi {α : Type} (f : α → Nat) {l : List α} {x : α} (h : x ∈ l) : f x ≤ (l.map f).sum := by
  induction l with
  | nil => cases h
  | cons a l ih =>
    rw [List.map_cons, List.sum_cons]
    rcases List.mem_cons.1 h with rfl | h
    · omega
    · have := ih h
      omega
def toC (x : S136) : S126 := ⟨x.f0.map toV, x.f1⟩
theorem aMk (a : List S24) (n : Int) (hn : a.length ≤ 8796093022208) : Ev (fun k => mQ.f k a n) (a.map toV, n) :=
  Ev.bind (aNt a hn) (f := fun k t => some (t, n)) (aAf fun _ => rfl)
theorem aLs (xs : List S136) (hn : xs.length ≤ 8796093022208) (hx : ∀ x ∈ xs, x.f0.length ≤ 8796093022208) : Ev (fun k => dZ.f k xs) (xs.map toC) :=
  aIs aXd aEs dZ.f dZ.l0 (fun k x => mQ.f k x.f0 x.f1) (fun bt => (⟨bt.1, bt.2⟩ : S126)) (fun x => (x.f0.map toV, x.f1)) 8796093022208 (fun _ _ => rfl) (fun _ _ _ _ => rfl) xs hn (by omega) (fun x h => aMk _ _ (hx x h))
theorem aOn (w : Int) (xs : List S136) (hn : xs.length ≤ 8796093022208) (hx : ∀ x ∈ xs, x.f0.length ≤ 8796093022208) : Ev (fun k => nA.f k w xs) (w, xs.map toC) :=
  Ev.bind (aLs xs hn hx) (f := fun k t => some (w, t)) (aAf fun _ => rfl)
theorem aJx (a : List S36) (n : Int) (hn : a.length ≤ 9223372036854775807) : Ev (fun k => mR.f k a n a n) true := by
  refine Ev.congr (fun k => rfl) (Ev.bind (aLh a hn) (f := fun k t => if t = true then (if n = n then some true else some false) else some false) ?_)
  exact aAf fun _ => by simp
theorem aJd (xs : List S126) (hn : xs.length ≤ 9223372036854775807) (hx : ∀ x ∈ xs, x.f0.length ≤ 9223372036854775807) : Ev (fun k => bT.f k xs xs) true :=
  aLc aEs bT.f bT.l0 (fun k x y => mR.f k x.f0 x.f1 y.f0 y.f1) (fun _ _ _ => rfl) (fun _ _ _ _ => rfl) xs hn (fun x h => aJx _ _ (hx x h))
theorem aKz (w : Int) (xs : List S126) (hn : xs.length ≤ 9223372036854775807) (hx : ∀ x ∈ xs, x.f0.length ≤ 9223372036854775807) : Ev (fun k => kV.f k w xs w xs) true := by
  refine Ev.congr (fun k => if_pos rfl) (Ev.bind (aJd xs hn hx) (f := fun k t => if t = true then some true else some false) ?_)
  exact aAf fun _ => by simp
theorem aKp {xs : List S136} {l : Int} (h : (aNm xs : Int) ≤ l) (hl : l ≤ 1048576) : xs.length ≤ 1048576 ∧ ∀ x ∈ xs, x.f0.length ≤ 1048576 := by
  unfold aNm at h
  refine ⟨by omega, fun x hx => ?_⟩
  have h1 := aFi wtC hx
  have h2 : x.f0.length ≤ wtC x := by unfold wtC aWl; omega
  omega
theorem aOa {xs : List S136} {n : Nat} (h : ∀ x ∈ xs, x.f0.length ≤ n) : ∀ x ∈ xs.map toC, x.f0.length ≤ n := by
  intro y hy
  obtain ⟨x, hx, rfl⟩ := List.mem_map.1 hy
  simpa [toC] using h x hx
def okV (a b : Int) (s : List UInt8) : Bool := if a = 0 then (b == 0 && s.isEmpty) else if a = 1 then s.isEmpty else if a = 2 then (decide (0 ≤ b ∧ b ≤ 1) && s.isEmpty) else if a = 3 then (b == 0 && decide (s.length ≤ 100)) else false
theorem aFb (a b : Int) (s : ByteArray) : j5.f a b s = some (okV a b s.data.toList) := by
  unfold j5.f okV bN.f
  have he : (s.toList == ([] : List UInt8)) = s.data.toList.isEmpty := by rw [toList_data]; cases s.data.toList <;> rfl
  rw [he, size_data]
  by_cases h0 : a = 0
  · by_cases hb : b = 0 <;> simp [h0, hb]
  · by_cases h1 : a = 1
    · simp [h1]
    · by_cases h2 : a = 2
      · by_cases hb : 0 ≤ b
        · by_cases hb' : b ≤ 1 <;> simp [h2, hb, hb']
        · simp [h2, hb]
      · by_cases h3 : a = 3
        · by_cases hb : b = 0
          · simp [h3, hb]
            omega
          · simp [h3, hb]
        · simp [h0, h1, h2, h3]
theorem aGk (a b : Int) (s : ByteArray) : jO.f a b s = some (okV a b s.data.toList) := aFb a b s
theorem aGx (a b c : Int) : bN.f a b c = some (decide (b ≤ a ∧ a ≤ c)) := by
  unfold bN.f
  by_cases h : a ≥ b
  · rw [if_pos h]
    by_cases h' : a ≤ c <;> simp [h', show b ≤ a from h]
  · rw [if_neg h, decide_eq_false (by omega)]
def aXx (s : ByteArray) (j : Nat) : Prop := (97 ≤ bt s j ∧ bt s j ≤ 122) ∨ (j ≠ 0 ∧ 48 ≤ bt s j ∧ bt s j ≤ 57)
def aIk (s : ByteArray) : Prop := (∀ j, j < s.size → aXx s j) ∧ 1 ≤ s.size ∧ s.size ≤ 10
theorem TR (s : ByteArray) (hs : s.size ≤ 9223372036854775807) : ∀ (n i : Nat) (r : Bool), s.size - i = n → i ≤ s.size → (r = true ↔ (∀ j, i ≤ j → j < s.size → aXx s j) ∧ 1 ≤ s.size ∧ s.size ≤ 10) → Ev (fun k => eB.l0 k s i) r := by
  intro n
  induction n with
  | zero =>
    intro i r h1 h2 hr
    refine Ev.step (fun k => rfl) (aAd (by omega) (aAf fun k => ?_))
    rw [aGx]
    simp only [Option.bind_some]
    congr 1
    rw [Bool.eq_iff_iff, hr, decide_eq_true_eq]
    exact ⟨fun h => ⟨fun j _ _ => by omega, by omega, by omega⟩, fun h => by omega⟩
  | succ n ih =>
    intro i r h1 h2 hr
    have hi : i < s.size := by omega
    have hb := aTp s i
    refine Ev.step (fun k => rfl) (aAb (by omega) (aAb (by omega) ?_))
    rw [aDl (by omega) (by omega), aBk hi hs]
    refine aBr (aGx _ _ _) ?_
    have next : aXx s i → Ev (fun k => eB.l0 k s ((i + 1 : Nat) : Int)) r := fun ho => ih (i + 1) r (by omega) (by omega) (hr.trans ⟨fun h => ⟨fun j hj hj' => h.1 j (by omega) hj', h.2⟩, fun h => ⟨fun j hj hj' => by
      by_cases e : j = i
      · exact e ▸ ho
      · exact h.1 j (by omega) hj', h.2⟩⟩)
    have no : ¬ aXx s i → false = r := fun ho => by
      cases r with
      | false => rfl
      | true => exact absurd ((hr.1 rfl).1 i (Nat.le_refl _) hi) ho
    by_cases hsm : 97 ≤ bt s i ∧ bt s i ≤ 122
    · exact aAb (decide_eq_true hsm) (next (.inl hsm))
    · refine aAd (by simpa using hsm) ?_
      by_cases h0 : (i : Int) = 0
      · exact aAb h0 (aAy (aAf fun _ => rfl) (no (by rintro (h | h); exact hsm h; exact h.1 (by omega))))
      · refine aAd h0 (aBr (aGx _ _ _) ?_)
        by_cases hd : 48 ≤ bt s i ∧ bt s i ≤ 57
        · exact aAb (decide_eq_true hd) (next (.inr ⟨by omega, hd⟩))
        · exact aAd (by simpa using hd) (aAy (aAf fun _ => rfl) (no (by rintro (h | h); exact hsm h; exact hd h.2)))
theorem JM (s : ByteArray) (hs : s.size ≤ 9223372036854775807) (r : Bool) (hr : r = true ↔ aIk s) : Ev (fun k => eB.f k s) r :=
  TR s hs s.size 0 r rfl (Nat.zero_le _) (hr.trans ⟨fun h => ⟨fun j _ hj => h.1 j hj, h.2⟩, fun h => ⟨fun j hj => h.1 j (Nat.zero_le _) hj, h.2⟩⟩)
theorem aSb {α : Type} {f : α → Option Bool} {g : α → Bool} : ∀ {xs : List α}, (∀ x ∈ xs, f x = some (g x)) → aHn f xs = some (xs.all g)
  | [], _ => rfl
  | x :: xs, h => by
    rw [aHn, h x (List.mem_cons_self ..), Option.bind_some, List.all_cons]
    cases g x with
    | false => rfl
    | true => rw [if_pos rfl, aSb fun y hy => h y (List.mem_cons_of_mem _ hy), Bool.true_and]
theorem aKl (a : Int) : jQ.f a = some (decide (97 ≤ a ∧ a ≤ 122)) := by
  unfold jQ.f
  by_cases h : a ≥ 97
  · rw [if_pos h]
    by_cases h' : a ≤ 122 <;> simp [h', show 97 ≤ a from h]
  · rw [if_neg h, decide_eq_false (by omega)]
theorem aQb (a : Int) : mZ.f a = some (decide (48 ≤ a ∧ a ≤ 57)) := by
  unfold mZ.f
  by_cases h : a ≥ 48
  · rw [if_pos h]
    by_cases h' : a ≤ 57 <;> simp [h', show 48 ≤ a from h]
  · rw [if_neg h, decide_eq_false (by omega)]
theorem aPl (a : Int) : kL.f a = some (decide ((97 ≤ a ∧ a ≤ 122) ∨ (48 ≤ a ∧ a ≤ 57))) := by
  unfold kL.f
  rw [aKl, Option.bind_some, aQb]
  by_cases h : 97 ≤ a ∧ a ≤ 122
  · rw [if_pos (decide_eq_true h), decide_eq_true (Or.inl h)]
  · rw [if_neg (by simpa using h), Option.bind_some]
    congr 1
    by_cases h' : 48 ≤ a ∧ a ≤ 57
    · rw [decide_eq_true h', decide_eq_true (Or.inr h')]
    · rw [decide_eq_false h', decide_eq_false (by rintro (x | x); exact h x; exact h' x)]
theorem aQe {s : ByteArray} {x : Int} (h : x ∈ aEc s) : ∃ j, j < s.size ∧ x = bt s (j : Nat) := by
  obtain ⟨j, hj, rfl⟩ := List.getElem_of_mem h
  have hl : j < s.size := by simpa [aEc] using hj
  refine ⟨j, hl, ?_⟩
  rw [← aPm s j (by simpa using hl)]
  simp [aEc]
  rfl
theorem aXp {s : ByteArray} {j : Nat} (hl : j < s.size) : bt s (j : Nat) ∈ aEc s := by
  have hj : j < (aEc s).length := by simpa [aEc] using hl
  have : (aEc s)[j] = bt s j := by
    rw [← aPm s j (by simpa using hl)]
    simp [aEc]
    rfl
  exact this ▸ List.getElem_mem hj
theorem YR (s : ByteArray) (r : Bool) (hr : r = true ↔ aIk s) : kN.f s = some r := by
  have hw : dF.f (s.size : Int) 1 10 = some (decide (1 ≤ s.size ∧ s.size ≤ 10)) := by
    unfold dF.f
    by_cases h : (1 : Int) ≤ (s.size : Int)
    · rw [if_pos h]
      congr 1
      by_cases h' : s.size ≤ 10
      · rw [decide_eq_true (by omega), decide_eq_true (by omega)]
      · rw [decide_eq_false (by omega), decide_eq_false (by omega)]
    · rw [if_neg h, decide_eq_false (by omega)]
  have no : ¬ aIk s → some false = some r := fun hn => by
    cases r with
    | false => rfl
    | true => exact absurd (hr.1 rfl) hn
  unfold kN.f
  rw [hw, Option.bind_some]
  by_cases hz : 1 ≤ s.size ∧ s.size ≤ 10
  · rw [if_pos (decide_eq_true hz), if_pos (by omega), aKl, Option.bind_some]
    by_cases h0 : 97 ≤ bt s 0 ∧ bt s 0 ≤ 122
    · rw [if_pos (decide_eq_true h0), if_pos (by omega), aSb (g := fun a => decide ((97 ≤ a ∧ a ≤ 122) ∨ (48 ≤ a ∧ a ≤ 57))) fun x _ => aPl x]
      congr 1
      rw [Bool.eq_iff_iff, hr, List.all_eq_true]
      refine ⟨fun h => ⟨fun j hj => ?_, hz⟩, fun h x hx => ?_⟩
      · have := of_decide_eq_true (h _ (aXp hj))
        by_cases e : j = 0
        · subst e
          exact .inl h0
        · exact this.imp id fun t => ⟨e, t⟩
      · obtain ⟨j, hj, rfl⟩ := aQe hx
        exact decide_eq_true ((h.1 j hj).imp id fun t => t.2)
    · rw [if_neg (by simpa using h0)]
      exact no fun h => (h.1 0 (by omega)).elim h0 fun t => t.1 rfl
  · rw [if_neg (by simpa using hz)]
    exact no fun h => hz h.2
def aVy (x y : S36) : Int := aWp x.f0 x.f1 x.f2 y.f0 y.f1 y.f2
def aEu : List S36 → List S36 → Int
  | [], [] => 0
  | [], _ :: _ => -1
  | _ :: _, [] => 1
  | x :: xs, y :: ys => if aVy x y = 0 then aEu xs ys else aVy x y
theorem aEp (xs ys : List S36) (i : Nat) (h : i = xs.length ∨ i = ys.length) (h0 : i ≤ xs.length) (h1 : i ≤ ys.length) :
    (if (xs.length : Int) < (ys.length : Int) then (some (-1)) else (if (xs.length : Int) > (ys.length : Int) then (some 1) else (some 0))) = some (aEu (xs.drop i) (ys.drop i)) := by
  by_cases hx : i < xs.length
  · have hy : i = ys.length := by omega
    rw [if_neg (by omega), if_pos (by omega), aBb z36 hx, show ys.drop i = [] from List.drop_eq_nil_of_le (by omega), aEu]
  · by_cases hy : i < ys.length
    · rw [if_pos (by omega), aBb z36 hy, show xs.drop i = [] from List.drop_eq_nil_of_le (by omega), aEu]
    · rw [if_neg (by omega), if_neg (by omega), show xs.drop i = [] from List.drop_eq_nil_of_le (by omega), show ys.drop i = [] from List.drop_eq_nil_of_le (by omega), aEu]
theorem aGr (xs ys : List S36) (hn : xs.length ≤ 9223372036854775807) : ∀ (n i : Nat), xs.length - i = n → i ≤ xs.length → i ≤ ys.length → Ev (fun k => bK.l0 k xs ys i) (aEu (xs.drop i) (ys.drop i)) := by
  intro n
  induction n with
  | zero =>
    intro i h1 h2 h3
    refine Ev.step (fun k => rfl) (aAd (by omega) (Ev.step (fun k => rfl) (aAf fun _ => aEp xs ys i (.inl (by omega)) h2 h3)))
  | succ n ih =>
    intro i h1 h2 h3
    have hi : i < xs.length := by omega
    refine Ev.step (fun k => rfl) (aAb (by omega) (Ev.step (fun k => rfl) ?_))
    by_cases hy : i < ys.length
    · refine aAb (decide_eq_true (by omega)) (aAb (by omega) (aAb (by omega) (aAb (by omega) ?_)))
      refine aBr (a := aVy (xs.getD i z36) (ys.getD i z36)) (by rw [← Int.toNat_natCast i]; rfl) ?_
      rw [aBk hi hn, aBb z36 hi, aBb z36 hy, aEu]
      by_cases hc : aVy (xs.getD i z36) (ys.getD i z36) = 0
      · rw [if_pos hc]
        exact aAb hc (ih (i + 1) (by omega) (by omega) (by omega))
      · rw [if_neg hc]
        exact aAd hc (aAf fun _ => rfl)
    · exact aAd (by simpa using hy) (aAf fun _ => aEp xs ys i (.inr (by omega)) h2 h3)
theorem aHo (xs ys : List S36) (hn : xs.length ≤ 9223372036854775807) : Ev (fun k => bK.f k xs ys) (aEu xs ys) := aGr xs ys hn xs.length 0 rfl (Nat.zero_le _) (Nat.zero_le _)
theorem aEv (k : Nat) : ∀ xs ys, jT.f (k + 4) xs ys = some (aEu xs ys)
  | [], [] => rfl
  | [], _ :: _ => rfl
  | _ :: _, [] => rfl
  | x :: xs, y :: ys => by
    have ih := aEv k xs ys
    unfold jT.f at ih ⊢
    rw [aOo, aJa, Option.bind_some, aEu, ih]
    show (if aVy x y = 0 then _ else some (aVy x y)) = _
    by_cases hc : aVy x y = 0 <;> simp [hc]
theorem aHp (xs ys : List S36) : Ev (fun k => jT.f k xs ys) (aEu xs ys) := ⟨4, fun k hk => by
  obtain ⟨m, rfl⟩ : ∃ m, k = m + 4 := ⟨k - 4, by omega⟩
  exact aEv m xs ys⟩
def wtR (x : S59) : Nat := x.f0.size + aNm x.f1.f1
def aWg (l : List S59) : Nat := l.length + (l.map wtR).sum
def okR (x : S59) : Prop := x.f0.size ≤ 9223372036854775807 ∧ x.f1.f1.length ≤ 9223372036854775807 ∧ ∀ y ∈ x.f1.f1, okC y
theorem aSt (a : ByteArray) (w : Int) (xs : List S136) (ha : a.size ≤ 9223372036854775807) (hn : xs.length ≤ 9223372036854775807) (hx : ∀ x ∈ xs, okC x) (l : Int) (h0 : 0 ≤ l) (h1 : l ≤ 1048576) : Ev (fun k => oM.f k a w xs l) (lft l (a.size + aNm xs)) := by
  unfold oM.f
  rw [aDl (x := l - (a.size : Int)) (by omega) (by omega)]
  by_cases h : l - (a.size : Int) < 0
  · exact aAb h (aAy (aAf fun _ => rfl) (aBd (by omega)).symm)
  · refine aAd h (Ev.bind (aPd w xs hn hx _ (by omega) (by omega)) ?_)
    by_cases g : (aNm xs : Int) ≤ l - (a.size : Int)
    · rw [aBl g, aBl (by omega)]
      exact aAd (by omega) (aAf fun _ => by congr 1; omega)
    · rw [aBd g, aBd (by omega)]
      exact aAb (by omega) (aAf fun _ => rfl)
theorem aSk (xs : List S59) (hn : xs.length ≤ 9223372036854775807) (hx : ∀ x ∈ xs, okR x) (l : Int) (h0 : 0 ≤ l) (h1 : l ≤ 1048576) : Ev (fun k => gQ.f k xs l) (lft l (aWg xs)) :=
  aLv z59 gQ.f gQ.l0 (fun k x l => oM.f k x.f0 x.f1.f0 x.f1.f1 l) wtR (fun _ _ _ => rfl) (fun _ _ _ _ => rfl) xs hn (fun x hx' l h0 h1 => aSt _ _ _ (hx x hx').1 (hx x hx').2.1 (hx x hx').2.2 l h0 h1) l h0 h1
theorem aQi {xs : List S59} {l : Int} (h : (aWg xs : Int) ≤ l) (hl : l ≤ 1048576) : xs.length ≤ 1048576 ∧ ∀ x ∈ xs, x.f1.f1.length ≤ 1048576 ∧ ∀ y ∈ x.f1.f1, y.f0.length ≤ 1048576 := by
  unfold aWg at h
  refine ⟨by omega, fun x hx => ?_⟩
  have h1 := aFi wtR hx
  have h2 : aNm x.f1.f1 ≤ wtR x := Nat.le_add_left _ _
  have h3 : (aNm x.f1.f1 : Int) ≤ l := by omega
  unfold aNm at h3
  refine ⟨by omega, fun y hy => ?_⟩
  have h4 := aFi wtC hy
  have h5 : y.f0.length ≤ wtC y := by unfold wtC aWl; omega
  omega
def toR (x : S59) : S68 := ⟨x.f0, ⟨x.f1.f0, x.f1.f1.map toC⟩⟩
theorem aSe (xs : List S59) (hn : xs.length ≤ 5864062014805) (hx : ∀ x ∈ xs, x.f1.f1.length ≤ 1048576 ∧ ∀ y ∈ x.f1.f1, y.f0.length ≤ 1048576) : Ev (fun k => eU.f k xs) (xs.map toR) :=
  aIs z59 z68 eU.f eU.l0 (fun k x => z8.f k x.f0 x.f1.f0 x.f1.f1) (fun bt => (⟨bt.1, (⟨bt.2.1, bt.2.2⟩ : S66)⟩ : S68)) (fun x => (x.f0, x.f1.f0, x.f1.f1.map toC)) 5864062014805 (fun _ _ => rfl) (fun _ _ _ _ => rfl) xs hn (by omega) (fun x h => Ev.bind (aOn _ _ (by have := (hx x h).1; omega) (fun y hy => by have := (hx x h).2 y hy; omega)) (aAf fun _ => rfl))
theorem aPw (a : ByteArray) (w : Int) (xs : List S126) (hn : xs.length ≤ 9223372036854775807) (hx : ∀ x ∈ xs, x.f0.length ≤ 9223372036854775807) : Ev (fun k => uO.f k a w xs a w xs) true := by
  refine Ev.congr (fun k => if_pos rfl) (Ev.bind (aKz w xs hn hx) (f := fun k t => if t = true then some true else some false) ?_)
  exact aAf fun _ => by simp
theorem aNz (xs : List S68) (hn : xs.length ≤ 9223372036854775807) (hx : ∀ x ∈ xs, x.f1.f1.length ≤ 9223372036854775807 ∧ ∀ y ∈ x.f1.f1, y.f0.length ≤ 9223372036854775807) : Ev (fun k => eD.f k xs xs) true :=
  aLc z68 eD.f eD.l0 (fun k x y => uO.f k x.f0 x.f1.f0 x.f1.f1 y.f0 y.f1.f0 y.f1.f1) (fun _ _ _ => rfl) (fun _ _ _ _ => rfl) xs hn (fun x h => aPw _ _ _ (hx x h).1 (hx x h).2)
theorem aUp {xs : List S59} (h : ∀ x ∈ xs, x.f1.f1.length ≤ 1048576 ∧ ∀ y ∈ x.f1.f1, y.f0.length ≤ 1048576) : ∀ x ∈ xs.map toR, x.f1.f1.length ≤ 9223372036854775807 ∧ ∀ y ∈ x.f1.f1, y.f0.length ≤ 9223372036854775807 := by
  intro y hy
  obtain ⟨x, hx, rfl⟩ := List.mem_map.1 hy
  refine ⟨by have := (h x hx).1; simp [toR]; omega, aOa fun z hz => by have := (h x hx).2 z hz; omega⟩
def aUl (xs : List S36) (w : Int) : Prop := (∀ x ∈ xs, okV x.f0 x.f1 x.f2.data.toList = true) ∧ (xs.length : Int) = w
theorem aIp (a b c : Int) : bN.f a b c = some (decide (b ≤ a ∧ a ≤ c)) := by
  unfold bN.f
  by_cases h : a ≥ b
  · rw [if_pos h]
    by_cases h' : a ≤ c <;> simp [h', show b ≤ a from h]
  · rw [if_neg h, decide_eq_false (by omega)]
theorem aGT (xs : List S36) (w : Int) (hn : xs.length ≤ 9223372036854775807) (r : Bool) (hr : r = true ↔ aUl xs w) : Ev (fun k => gN.f k xs w) r := by
  refine aEy xs.length (fun k i => gN.l0 k xs w i) (fun j => okV (xs.getD j z36).f0 (xs.getD j z36).f1 (xs.getD j z36).f2.data.toList = true) ((xs.length : Int) = w) ?_ ?_ r (hr.trans ?_)
  · intro r hr
    refine Ev.step (fun k => rfl) (aAd (by omega) (aAf fun _ => ?_))
    congr 1
    rw [Bool.eq_iff_iff, hr, beq_iff_eq]
  · intro i hi r next no
    refine Ev.step (fun k => rfl) (aAb (by omega) (aAb (by omega) (aBr (aFb _ _ _) ?_)))
    rw [aBk hi hn]
    by_cases h : okV (xs.getD i z36).f0 (xs.getD i z36).f1 (xs.getD i z36).f2.data.toList = true
    · exact aAb h (next h)
    · exact aAd h (aAy (aAf fun _ => rfl) (no h).symm)
  · unfold aUl
    rw [aDw z36 (p := fun x => okV x.f0 x.f1 x.f2.data.toList = true)]
theorem aOi {α : Type} {f : α → Option Bool} {g : α → Bool} : ∀ {xs : List α}, (∀ x ∈ xs, f x = some (g x)) → aHn f xs = some (xs.all g)
  | [], _ => rfl
  | x :: xs, h => by
    rw [aHn, h x (List.mem_cons_self ..), Option.bind_some, List.all_cons]
    cases g x with
    | false => rfl
    | true => rw [if_pos rfl, aOi fun y hy => h y (List.mem_cons_of_mem _ hy), Bool.true_and]
theorem aQu {α : Type} {f : Nat → α → Option Bool} {g : α → Bool} : ∀ {xs : List α}, (∀ x ∈ xs, Ev (fun k => f k x) (g x)) → Ev (fun k => aHn (f k) xs) (xs.all g)
  | [], _ => aAf fun _ => rfl
  | x :: xs, h => by
    refine Ev.bind (h x (List.mem_cons_self ..)) (f := fun k b => if b = true then aHn (f k) xs else some false) ?_
    rw [List.all_cons]
    cases hg : g x with
    | false => exact aAd (by simp) (aAf fun _ => rfl)
    | true => exact aAb rfl (aAy (aQu fun y hy => h y (List.mem_cons_of_mem _ hy)) (Bool.true_and _).symm)
theorem aMg (a b c : Int) : dF.f a b c = some (decide (b ≤ a ∧ a ≤ c)) := by
  unfold dF.f
  by_cases h : b ≤ a
  · rw [if_pos h]
    by_cases h' : a ≤ c <;> simp [h', h]
  · rw [if_neg h, decide_eq_false (by omega)]
theorem aF5 (xs : List S36) (w : Int) (r : Bool) (hr : r = true ↔ aUl xs w) : l7.f xs w = some r := by
  unfold l7.f
  by_cases h : (xs.length : Int) = w
  · rw [if_pos h, aOi (g := fun x => okV x.f0 x.f1 x.f2.data.toList) fun x _ => aGk _ _ _]
    congr 1
    rw [Bool.eq_iff_iff, hr, List.all_eq_true]
    exact ⟨fun g => ⟨g, h⟩, fun g => g.1⟩
  · rw [if_neg h]
    cases r with
    | false => rfl
    | true => exact absurd (hr.1 rfl).2 h
def aWs (w : Int) (xs : List S126) (j : Nat) : Prop :=
  aUl (xs.getD j aEs).f0 w ∧ (xs.getD j aEs).f1 ≠ 0 ∧ (-1000000000 ≤ (xs.getD j aEs).f1 ∧ (xs.getD j aEs).f1 ≤ 1000000000) ∧ (0 < j → aEu (xs.getD (j - 1) aEs).f0 (xs.getD j aEs).f0 < 0)
def aVl (w : Int) (xs : List S126) : Prop := (∀ j, j < xs.length → aWs w xs j) ∧ (0 ≤ w ∧ w ≤ 12) ∧ xs.length ≤ 400
open Classical in
theorem a0C (w : Int) (xs : List S126) (hn : xs.length ≤ 1048576) (hx : ∀ x ∈ xs, x.f0.length ≤ 1048576) (r : Bool) (hr : r = true ↔ aVl w xs) : Ev (fun k => dJ.f k w xs) r := by
  refine aEy xs.length (fun k i => dJ.l0 k i w xs) (aWs w xs) ((0 ≤ w ∧ w ≤ 12) ∧ xs.length ≤ 400) ?_ ?_ r hr
  · intro r hr
    refine Ev.step (fun k => rfl) (aAd (by omega) (aAf fun _ => ?_))
    rw [aIp, Option.bind_some]
    by_cases h : 0 ≤ w ∧ w ≤ 12
    · rw [if_pos (decide_eq_true h)]
      congr 1
      rw [Bool.eq_iff_iff, hr, decide_eq_true_eq]
      exact ⟨fun g => ⟨h, by omega⟩, fun g => by have := g.2; omega⟩
    · rw [if_neg (by simpa using h)]
      cases r with
      | false => rfl
      | true => exact absurd (hr.1 rfl).1 h
  · intro i hi r next no
    have len : ∀ j, j < xs.length → (xs.getD j aEs).f0.length ≤ 9223372036854775807 := fun j hj => Nat.le_trans (hx _ (aCd _ hj)) (by omega)
    have stop : ¬ aWs w xs i → Ev (fun _ : Nat => some false) r := fun g => aAy (aAf fun _ => rfl) (no g).symm
    refine Ev.step (fun k => rfl) (aAb (by omega) (aAb (by omega) (Ev.bind (aGT (xs.getD i aEs).f0 w (len i hi) (decide (aUl (xs.getD i aEs).f0 w)) decide_eq_true_iff) ?_)))
    by_cases h1 : aUl (xs.getD i aEs).f0 w
    case neg => exact aAd (by simpa using h1) (stop fun g => h1 g.1)
    refine aAb (decide_eq_true h1) ?_
    by_cases h2 : (xs.getD i aEs).f1 = 0
    case pos => exact aAb h2 (stop fun g => g.2.1 h2)
    refine aAd h2 (aBr (aIp _ _ _) ?_)
    by_cases h3 : -1000000000 ≤ (xs.getD i aEs).f1 ∧ (xs.getD i aEs).f1 ≤ 1000000000
    case neg => exact aAd (by rw [decide_eq_true_eq]; exact h3) (stop fun g => h3 g.2.2.1)
    refine aAb (decide_eq_true h3) ?_
    rw [aBk hi (by omega)]
    by_cases h4 : 0 < i
    case neg => exact aAd (by omega) (next ⟨h1, h2, h3, fun g => absurd g h4⟩)
    rw [aFg h4 (by omega)]
    refine aAb (by omega) (aAb (by omega) (aAb (by omega) (Ev.bind (aHo (xs.getD (i - 1) aEs).f0 (xs.getD i aEs).f0 (len (i - 1) (by omega))) ?_)))
    by_cases h5 : aEu (xs.getD (i - 1) aEs).f0 (xs.getD i aEs).f0 ≥ 0
    · exact aAb h5 (stop fun g => by have := g.2.2.2 h4; omega)
    · exact aAd h5 (next ⟨h1, h2, h3, fun _ => by omega⟩)
open Classical in
theorem a04 (w : Int) (xs : List S126) (hn : xs.length ≤ 1048576) (r : Bool) (hr : r = true ↔ aVl w xs) : Ev (fun k => bW.f k w xs) r := by
  unfold bW.f
  rw [aMg]
  refine Ev.congr (fun k => Option.bind_some _ _) ?_
  have no : ¬ aVl w xs → r = false := fun h => by
    cases r with
    | false => rfl
    | true => exact absurd (hr.1 rfl) h
  by_cases hw : 0 ≤ w ∧ w ≤ 12
  case neg => exact aAd (by rw [decide_eq_true_eq]; exact hw) (Ev.step (fun k => rfl) (aAy (aAf fun _ => rfl) (no fun g => hw g.2.1).symm))
  refine aAb (decide_eq_true hw) ?_
  by_cases hl : (xs.length : Int) > 400
  case pos => exact Ev.step (fun k => rfl) (aAb (decide_eq_true hl) (aAy (aAf fun _ => rfl) (no fun g => by have := g.2.2; omega).symm))
  refine Ev.step (fun k => rfl) (aAd (by rw [decide_eq_true_eq]; exact hl) ?_)
  refine aEy xs.length (fun k i => bW.l0 k xs (xs.length : Int) i w xs) (aWs w xs) True ?_ ?_ r (hr.trans ⟨fun g => ⟨g.1, trivial⟩, fun g => ⟨g.1, hw, by omega⟩⟩)
  · intro r hr
    exact Ev.step (fun k => rfl) (aAd (by omega) (aAy (aAf fun _ => rfl) (hr.2 trivial).symm))
  · intro i hi r next no
    have stop : ¬ aWs w xs i → Ev (fun _ : Nat => some false) r := fun g => aAy (aAf fun _ => rfl) (no g).symm
    refine Ev.step (fun k => rfl) (aAb (by omega) (aAb (by omega) (aAb (by omega) (aBr (aF5 (xs.getD i aEs).f0 w (decide (aUl (xs.getD i aEs).f0 w)) decide_eq_true_iff) ?_))))
    by_cases h1 : aUl (xs.getD i aEs).f0 w
    case neg => exact aAd (by simpa using h1) (stop fun g => h1 g.1)
    refine aAb (decide_eq_true h1) ?_
    by_cases h2 : (xs.getD i aEs).f1 = 0
    case pos => exact aAb h2 (stop fun g => g.2.1 h2)
    refine aAd h2 (aBr (aMg _ _ _) ?_)
    by_cases h3 : -1000000000 ≤ (xs.getD i aEs).f1 ∧ (xs.getD i aEs).f1 ≤ 1000000000
    case neg => exact aAd (by rw [decide_eq_true_eq]; exact h3) (stop fun g => h3 g.2.2.1)
    refine aAb (decide_eq_true h3) ?_
    rw [aBk hi (by omega)]
    by_cases h4 : 0 < i
    case neg => exact aAd (by omega) (next ⟨h1, h2, h3, fun g => absurd g h4⟩)
    rw [aFg h4 (by omega)]
    refine aAb (by omega) (aAb (by omega) (aAb (by omega) (Ev.bind (aHp (xs.getD (i - 1) aEs).f0 (xs.getD i aEs).f0) ?_)))
    by_cases h5 : aEu (xs.getD (i - 1) aEs).f0 (xs.getD i aEs).f0 ≥ 0
    · exact aAb h5 (stop fun g => by have := g.2.2.2 h4; omega)
    · exact aAd h5 (next ⟨h1, h2, h3, fun _ => by omega⟩)
def aHz (w : Int) (xs : List S126) : Prop := (∀ x ∈ xs, 0 ≤ x.f1) ∧ aVl w xs
open Classical in
theorem a0Q (w : Int) (xs : List S126) (hn : xs.length ≤ 1048576) (hx : ∀ x ∈ xs, x.f0.length ≤ 1048576) (r : Bool) (hr : r = true ↔ aHz w xs) : Ev (fun k => jD.f k w xs) r := by
  refine aEy xs.length (fun k i => jD.l0 k i w xs) (fun j => 0 ≤ (xs.getD j aEs).f1) (aVl w xs) ?_ ?_ r (hr.trans ?_)
  · intro r hr
    exact Ev.step (fun k => rfl) (aAd (by omega) (Ev.bind (a0C w xs hn hx r hr) (aAf fun _ => rfl)))
  · intro i hi r next no
    refine Ev.step (fun k => rfl) (aAb (by omega) (aAb (by omega) ?_))
    rw [aBk hi (by omega)]
    by_cases h : (xs.getD i aEs).f1 < 0
    · exact aAb h (aAy (aAf fun _ => rfl) (no (by omega)).symm)
    · exact aAd h (next (by omega))
  · unfold aHz
    rw [aDw aEs (p := fun x => 0 ≤ x.f1)]
open Classical in
theorem a0L (w : Int) (xs : List S126) (hn : xs.length ≤ 1048576) (r : Bool) (hr : r = true ↔ aHz w xs) : Ev (fun k => rV.f k w xs) r := by
  unfold rV.f
  refine Ev.bind (a04 w xs hn (decide (aVl w xs)) decide_eq_true_iff) ?_
  by_cases hb : aVl w xs
  · refine aAb (decide_eq_true hb) (aAf fun _ => ?_)
    rw [aOi (f := fun x : S126 => pM.f x.f0 x.f1) (g := fun x => decide (x.f1 > 0)) fun x _ => rfl]
    congr 1
    rw [Bool.eq_iff_iff, hr, List.all_eq_true]
    have ne : ∀ x ∈ xs, x.f1 ≠ 0 := (aDw aEs (p := fun x => x.f1 ≠ 0)).1 fun j hj => (hb.1 j hj).2.1
    refine ⟨fun h => ⟨fun x hx => ?_, hb⟩, fun h x hx => decide_eq_true ?_⟩
    · have := of_decide_eq_true (h x hx)
      omega
    · have h1 := ne x hx
      have h2 := h.1 x hx
      omega
  · refine aAd (by simpa using hb) (aAy (aAf fun _ => rfl) ?_)
    cases r with
    | false => rfl
    | true => exact absurd (hr.1 rfl).2 hb
def aYo (xs : List S68) (j : Nat) : Prop :=
  aIk (xs.getD j z68).f0 ∧ aHz (xs.getD j z68).f1.f0 (xs.getD j z68).f1.f1 ∧ (0 < j → Op.bytesLess (xs.getD (j - 1) z68).f0.toList (xs.getD j z68).f0.toList = true)
def DbP (xs : List S68) : Prop := (∀ j, j < xs.length → aYo xs j) ∧ xs.length ≤ 20
open Classical in
theorem a95 (xs : List S68) (hn : xs.length ≤ 1048576) (hx : ∀ x ∈ xs, x.f0.size ≤ 9223372036854775807 ∧ x.f1.f1.length ≤ 1048576 ∧ ∀ y ∈ x.f1.f1, y.f0.length ≤ 1048576) (r : Bool) (hr : r = true ↔ DbP xs) : Ev (fun k => eF.f k xs) r := by
  refine aEy xs.length (fun k i => eF.l0 k xs i) (aYo xs) (xs.length ≤ 20) ?_ ?_ r hr
  · intro r hr
    refine Ev.step (fun k => rfl) (aAd (by omega) (aAf fun _ => ?_))
    congr 1
    rw [Bool.eq_iff_iff, hr, decide_eq_true_eq]
    omega
  · intro i hi r next no
    have hl := hx _ (aCd z68 hi)
    have stop : ¬ aYo xs i → Ev (fun _ : Nat => some false) r := fun g => aAy (aAf fun _ => rfl) (no g).symm
    refine Ev.step (fun k => rfl) (aAb (by omega) (aAb (by omega) (Ev.bind (JM (xs.getD i z68).f0 hl.1 (decide (aIk (xs.getD i z68).f0)) decide_eq_true_iff) ?_)))
    by_cases h1 : aIk (xs.getD i z68).f0
    case neg => exact aAd (by simpa using h1) (stop fun g => h1 g.1)
    refine aAb (decide_eq_true h1) (Ev.bind (a0Q (xs.getD i z68).f1.f0 (xs.getD i z68).f1.f1 hl.2.1 hl.2.2 (decide (aHz (xs.getD i z68).f1.f0 (xs.getD i z68).f1.f1)) decide_eq_true_iff) ?_)
    by_cases h2 : aHz (xs.getD i z68).f1.f0 (xs.getD i z68).f1.f1
    case neg => exact aAd (by simpa using h2) (stop fun g => h2 g.2.1)
    refine aAb (decide_eq_true h2) ?_
    rw [aBk hi (by omega)]
    by_cases h4 : 0 < i
    case neg => exact aAd (by omega) (next ⟨h1, h2, fun g => absurd g h4⟩)
    rw [aFg h4 (by omega)]
    refine aAb (by omega) (aAb (by omega) (aAb (by omega) ?_))
    by_cases h5 : Op.bytesLess (xs.getD (i - 1) z68).f0.toList (xs.getD i z68).f0.toList = true
    · exact aAb h5 (next ⟨h1, h2, fun _ => h5⟩)
    · exact aAd h5 (stop fun g => h5 (g.2.2 h4))
def aIw (ns : List ByteArray) (j : Nat) : Prop := aIk (ns.getD j ByteArray.empty) ∧ (0 < j → Op.bytesLess (ns.getD (j - 1) ByteArray.empty).toList (ns.getD j ByteArray.empty).toList = true)
open Classical in
theorem EL (ns : List ByteArray) (hn : ns.length ≤ 9223372036854775807) (r : Bool) (hr : r = true ↔ ∀ j, j < ns.length → aIw ns j) : Ev (fun k => fB.f k ns) r := by
  refine aEy ns.length (fun k i => fB.l0 k ns ns (ns.length : Int) i) (aIw ns) True ?_ ?_ r (hr.trans ⟨fun h => ⟨h, trivial⟩, fun h => h.1⟩)
  · intro r hr
    exact Ev.step (fun k => rfl) (aAd (by omega) (aAy (aAf fun _ => rfl) (hr.2 trivial).symm))
  · intro i hi r next no
    have stop : ¬ aIw ns i → Ev (fun _ : Nat => some false) r := fun g => aAy (aAf fun _ => rfl) (no g).symm
    refine Ev.step (fun k => rfl) (aAb (by omega) (aAb (by omega) (aAb (by omega) (aBr (YR (ns.getD i ByteArray.empty) (decide (aIk (ns.getD i ByteArray.empty))) decide_eq_true_iff) ?_))))
    by_cases h1 : aIk (ns.getD i ByteArray.empty)
    case neg => exact aAd (by simpa using h1) (stop fun g => h1 g.1)
    refine aAb (decide_eq_true h1) ?_
    rw [aBk hi hn]
    by_cases h4 : 0 < i
    case neg => exact aAd (by omega) (next ⟨h1, fun g => absurd g h4⟩)
    rw [aFg h4 (by omega)]
    refine aAb (by omega) (aAb (by omega) (aAb (by omega) ?_))
    by_cases h5 : Op.bytesLess (ns.getD (i - 1) ByteArray.empty).toList (ns.getD i ByteArray.empty).toList = true
    · exact aAb h5 (next ⟨h1, fun _ => h5⟩)
    · exact aAd h5 (stop fun g => h5 (g.2 h4))
theorem TV (xs : List S68) (hn : xs.length ≤ 1048576) : Ev (fun k => gJ.f k xs) (xs.map fun x => x.f0) := by
  have h : ∀ (n i : Nat) (ys : List ByteArray), xs.length - i = n → i ≤ xs.length → ys = (xs.take i).map (fun x => x.f0) → Ev (fun k => gJ.l0 k ys xs (xs.length : Int) i) (xs.map fun x => x.f0) := by
    intro n
    induction n with
    | zero =>
      intro i ys h1 h2 h3
      refine Ev.step (fun k => rfl) (aAd (by omega) (aAy (aAf fun _ => rfl) ?_))
      rw [h3, List.take_of_length_le (by omega)]
    | succ n ih =>
      intro i ys h1 h2 h3
      have hi : i < xs.length := by omega
      have hl : ys.length = i := by rw [h3]; simp; omega
      refine Ev.step (fun k => rfl) (aAb (by omega) (aAb (by omega) (aAb (by omega) (aAb (by omega) ?_))))
      rw [aBk hi (by omega)]
      refine ih (i + 1) _ (by omega) (by omega) ?_
      rw [h3, List.take_succ_eq_append_getElem hi, List.map_append]
      have : (xs.getD i z68) = xs[i] := by rw [List.getD_eq_getElem?_getD, List.getElem?_eq_getElem hi]; rfl
      rw [List.map_cons, List.map_nil, ← this]
      rfl
  exact h xs.length 0 [] rfl (Nat.zero_le _) rfl
open Classical in
theorem a2J (xs : List S68) (hn : xs.length ≤ 1048576) (hx : ∀ x ∈ xs, x.f0.size ≤ 9223372036854775807 ∧ x.f1.f1.length ≤ 1048576 ∧ ∀ y ∈ x.f1.f1, y.f0.length ≤ 1048576) (r : Bool) (hr : r = true ↔ DbP xs) : Ev (fun k => pQ.f k xs) r := by
  have no : ¬ DbP xs → r = false := fun h => by
    cases r with
    | false => rfl
    | true => exact absurd (hr.1 rfl) h
  have nm : ∀ j, j < xs.length → (xs.map fun x => x.f0).getD j ByteArray.empty = (xs.getD j z68).f0 := fun j hj => by
    rw [List.getD_eq_getElem?_getD, List.getElem?_eq_getElem (by simpa using hj), List.getD_eq_getElem?_getD, List.getElem?_eq_getElem hj]
    simp
  by_cases hl : (xs.length : Int) ≤ 20
  case neg => exact aAd hl (aAy (aAf fun _ => rfl) (no fun g => by have := g.2; omega).symm)
  refine aAb hl (Ev.bind (TV xs hn) (Ev.bind (EL (xs.map fun x => x.f0) (by simp; omega) (decide (∀ j, j < (xs.map fun x => x.f0).length → aIw (xs.map fun x => x.f0) j)) decide_eq_true_iff) ?_))
  by_cases h1 : ∀ j, j < (xs.map fun x => x.f0).length → aIw (xs.map fun x => x.f0) j
  case neg =>
    refine aAd (by rw [decide_eq_true_eq]; exact h1) (aAy (aAf fun _ => rfl) (no fun g => h1 fun j hj => ?_).symm)
    have hj' : j < xs.length := by simpa using hj
    have := g.1 j hj'
    refine ⟨by rw [nm j hj']; exact this.1, fun h0 => ?_⟩
    rw [nm j hj', nm (j - 1) (by omega)]
    exact this.2.2 h0
  refine aAb (decide_eq_true h1) ?_
  have hp : ∀ x ∈ xs, Ev (fun k => sD.f k x.f0 x.f1.f0 x.f1.f1) (decide (aHz x.f1.f0 x.f1.f1)) := fun x hx' => Ev.bind (a0L x.f1.f0 x.f1.f1 (hx x hx').2.1 _ decide_eq_true_iff) (aAf fun _ => rfl)
  refine aAy (aQu hp) ?_
  rw [Bool.eq_iff_iff, hr, List.all_eq_true]
  constructor
  · intro h
    refine ⟨fun j hj => ?_, by omega⟩
    have h2 := h1 j (by simpa using hj)
    refine ⟨by have := h2.1; rwa [nm j hj] at this, of_decide_eq_true (h _ (aCd z68 hj)), fun h0 => ?_⟩
    have := h2.2 h0
    rwa [nm j hj, nm (j - 1) (by omega)] at this
  · intro h x hx'
    exact decide_eq_true ((aDw z68 (p := fun x => aHz x.f1.f0 x.f1.f1)).1 (fun j hj => (h.1 j hj).2.1) x hx')
def aNy : Nat → S27 → Prop
  | 0, _ => False
  | n + 1, x => x.f2.f2.size ≤ 9223372036854775807 ∧ x.f3.size ≤ 9223372036854775807 ∧ x.f4.length ≤ 9223372036854775807 ∧ ∀ y ∈ x.f4, aNy n y
def aGf : Nat → S27 → Nat
  | 0, _ => 0
  | n + 1, x => x.f2.f2.size + (x.f3.size + (x.f4.length + (x.f4.map (aGf n)).sum))
theorem aLm : ∀ (n : Nat) (x : S27), aNy n x → ∃ K, ∀ k, K ≤ k → ∀ l, 0 ≤ l → l ≤ 1048576 → eT.f k x.f0 x.f1 x.f2.f0 x.f2.f1 x.f2.f2 x.f3 x.f4 l = some (lft l (aGf n x))
  | 0, _, h => h.elim
  | n + 1, x, h => by
    obtain ⟨h1, h2, h3, h4⟩ := h
    obtain ⟨K, hK⟩ := aEl (xs := x.f4) (P := fun k y => ∀ l, 0 ≤ l → l ≤ 1048576 → eT.f k y.f0 y.f1 y.f2.f0 y.f2.f1 y.f2.f2 y.f3 y.f4 l = some (lft l (aGf n y))) fun y hy => aLm n y (h4 y hy)
    refine ⟨max K (x.f4.length + 1) + 1, fun k hk l h0 h5 => ?_⟩
    obtain ⟨k, rfl⟩ : ∃ m, k = m + 1 := ⟨k - 1, by omega⟩
    show (gX.f _ _ _ l).bind _ = _
    rw [aLa _ _ _ l h0 h5 h1, Option.bind_some]
    by_cases a : (x.f2.f2.size : Int) ≤ l
    · rw [aBl a, if_neg (by omega), aDl (x := l - (x.f2.f2.size : Int) - (x.f3.size : Int)) (by omega) (by omega)]
      by_cases b : l - (x.f2.f2.size : Int) - (x.f3.size : Int) < 0
      · rw [if_pos b, aBd (by unfold aGf; omega)]
      · rw [if_neg b, aLr z27 (eP.f (eT.f k)) (eP.l0 (eT.f k)) (fun y l => eT.f k y.f0 y.f1 y.f2.f0 y.f2.f1 y.f2.f2 y.f3 y.f4 l) (aGf n) (fun _ _ _ => rfl) (fun _ _ _ _ => rfl) x.f4 h3 (fun y hy l a b => hK k (by omega) y hy l a b) k (by omega) _ (by omega) (by omega), Option.bind_some]
        by_cases c : ((x.f4.length + (x.f4.map (aGf n)).sum : Nat) : Int) ≤ l - (x.f2.f2.size : Int) - (x.f3.size : Int)
        · rw [aBl c, if_neg (by omega), aBl (by unfold aGf; omega)]
          congr 1
          unfold aGf
          omega
        · rw [aBd c, if_pos (by omega), aBd (by unfold aGf; omega)]
    · rw [aBd a, if_pos (by omega), aBd (by unfold aGf; omega)]
theorem aLi {n : Nat} {x y : S27} {b : Nat} (h : aGf (n + 1) x ≤ b) (hy : y ∈ x.f4) : aGf n y ≤ b := by
  have := aDe (aGf n) hy
  unfold aGf at h
  omega
theorem aMa {n : Nat} {x : S27} {b : Nat} (h : aGf (n + 1) x ≤ b) : x.f4.length ≤ b := by
  unfold aGf at h
  omega
def aBy : Nat → S27 → S39
  | 0, _ => z39
  | n + 1, x => ⟨x.f0, x.f1, ⟨x.f2.f0, x.f2.f1, x.f2.f2⟩, x.f3, x.f4.map (aBy n)⟩
theorem aLw : ∀ (n : Nat) (x : S27), aNy n x → aGf n x ≤ 1048576 → ∃ K, ∀ k, K ≤ k → fE.f k x.f0 x.f1 x.f2.f0 x.f2.f1 x.f2.f2 x.f3 x.f4 = some ((aBy n x).f0, (aBy n x).f1, (aBy n x).f2.f0, (aBy n x).f2.f1, (aBy n x).f2.f2, (aBy n x).f3, (aBy n x).f4)
  | 0, _, h, _ => h.elim
  | n + 1, x, h, hw => by
    obtain ⟨_, _, _, h4⟩ := h
    have hl := aMa hw
    obtain ⟨K, hK⟩ := aEl (xs := x.f4) (P := fun k y => fE.f k y.f0 y.f1 y.f2.f0 y.f2.f1 y.f2.f2 y.f3 y.f4 = some ((aBy n y).f0, (aBy n y).f1, (aBy n y).f2.f0, (aBy n y).f2.f1, (aBy n y).f2.f2, (aBy n y).f3, (aBy n y).f4)) fun y hy => aLw n y (h4 y hy) (aLi hw hy)
    refine ⟨max K (x.f4.length + 1) + 1, fun k hk => ?_⟩
    obtain ⟨k, rfl⟩ : ∃ m, k = m + 1 := ⟨k - 1, by omega⟩
    show ((eQ.f (fE.f k) k x.f4).bind _) = _
    rw [aJs z27 z39 (eQ.f (fE.f k)) (eQ.l0 (fE.f k)) (fun y => fE.f k y.f0 y.f1 y.f2.f0 y.f2.f1 y.f2.f2 y.f3 y.f4) (fun bt => (⟨bt.1, bt.2.1, (⟨bt.2.2.1, bt.2.2.2.1, bt.2.2.2.2.1⟩ : S36), bt.2.2.2.2.2.1, bt.2.2.2.2.2.2⟩ : S39)) (fun y => ((aBy n y).f0, (aBy n y).f1, (aBy n y).f2.f0, (aBy n y).f2.f1, (aBy n y).f2.f2, (aBy n y).f3, (aBy n y).f4)) 3198579280802 (fun _ _ => rfl) (fun _ _ _ _ => rfl) x.f4 (by omega) (by omega) (fun y hy => hK k (by omega) y hy) k (by omega), Option.bind_some]
    have e : aBy (n + 1) x = ⟨x.f0, x.f1, ⟨x.f2.f0, x.f2.f1, x.f2.f2⟩, x.f3, x.f4.map (aBy n)⟩ := by simp only [aBy]
    rw [e]
    have hm : ∀ y : S39, (⟨y.f0, y.f1, (⟨y.f2.f0, y.f2.f1, y.f2.f2⟩ : S36), y.f3, y.f4⟩ : S39) = y := fun y => by cases y; rfl
    exact congrArg (fun l => some (x.f0, x.f1, x.f2.f0, x.f2.f1, x.f2.f2, x.f3, l)) (List.map_congr_left fun y _ => hm (aBy n y))
def aIb : Nat → S39 → Prop
  | 0, _ => True
  | m + 1, y => y.f4.length ≤ 1048576 ∧ ∀ z ∈ y.f4, aIb m z
theorem aVk : ∀ m, aIb m z39
  | 0 => trivial
  | _ + 1 => ⟨by simp [z39], fun z hz => by simp [z39] at hz⟩
theorem aNn : ∀ (n m : Nat) (x : S27), aGf n x ≤ 1048576 → aIb m (aBy n x)
  | 0, m, _, _ => aVk m
  | _ + 1, 0, _, _ => trivial
  | n + 1, m + 1, x, h => by
    refine ⟨?_, fun z hz => ?_⟩
    · show (x.f4.map (aBy n)).length ≤ 1048576
      rw [List.length_map]
      exact aMa h
    · obtain ⟨u, hu, rfl⟩ := List.mem_map.1 hz
      exact aNn n m u (aLi h hu)
theorem aHt : ∀ (n : Nat) (x : S27), aNy n x → aGf n x ≤ 1048576 → ∃ K, ∀ k, K ≤ k → dW.f k (aBy n x).f0 (aBy n x).f1 (aBy n x).f2.f0 (aBy n x).f2.f1 (aBy n x).f2.f2 (aBy n x).f3 (aBy n x).f4 (aBy n x).f0 (aBy n x).f1 (aBy n x).f2.f0 (aBy n x).f2.f1 (aBy n x).f2.f2 (aBy n x).f3 (aBy n x).f4 = some true
  | 0, _, h, _ => h.elim
  | n + 1, x, h, hw => by
    obtain ⟨_, _, _, h4⟩ := h
    have hl := aMa hw
    obtain ⟨K, hK⟩ := aEl (xs := x.f4) (P := fun k y => dW.f k (aBy n y).f0 (aBy n y).f1 (aBy n y).f2.f0 (aBy n y).f2.f1 (aBy n y).f2.f2 (aBy n y).f3 (aBy n y).f4 (aBy n y).f0 (aBy n y).f1 (aBy n y).f2.f0 (aBy n y).f2.f1 (aBy n y).f2.f2 (aBy n y).f3 (aBy n y).f4 = some true) fun y hy => aHt n y (h4 y hy) (aLi hw hy)
    refine ⟨max K (x.f4.length + 1) + 1, fun k hk => ?_⟩
    obtain ⟨k, rfl⟩ : ∃ m, k = m + 1 := ⟨k - 1, by omega⟩
    have e := aLp z39 (cK.f (dW.f k)) (cK.l0 (dW.f k)) (fun y z => dW.f k y.f0 y.f1 y.f2.f0 y.f2.f1 y.f2.f2 y.f3 y.f4 z.f0 z.f1 z.f2.f0 z.f2.f1 z.f2.f2 z.f3 z.f4) (fun _ _ _ => rfl) (fun _ _ _ _ => rfl) (x.f4.map (aBy n)) (by rw [List.length_map]; omega) (fun y hy => by
      obtain ⟨u, hu, rfl⟩ := List.mem_map.1 hy
      exact hK k (by omega) u hu) k (by rw [List.length_map]; omega)
    simp [dW.f, iH.f, aBy, e]
theorem aRq (xs : List ByteArray) (s : ByteArray) (hn : xs.length ≤ 9223372036854775807) : Ev (fun k => iJ.f k xs s) (xs.any fun x => x.toList == s.toList) := by
  have h : ∀ (n i : Nat), xs.length - i = n → i ≤ xs.length → Ev (fun k => iJ.l0 k xs s (i : Int)) ((xs.drop i).any fun x => x.toList == s.toList) := by
    intro n
    induction n with
    | zero =>
      intro i h1 h2
      refine Ev.step (fun k => rfl) (aAd (by omega) (aAy (aAf fun _ => rfl) ?_))
      rw [show i = xs.length by omega, List.drop_length]
      rfl
    | succ n ih =>
      intro i h1 h2
      have hi : i < xs.length := by omega
      refine Ev.step (fun k => rfl) (aAb (by omega) (aAb (by omega) ?_))
      rw [aBb ByteArray.empty hi, List.any_cons]
      show Ev (fun k => if (xs.getD (i : Int).toNat ByteArray.empty).toList = s.toList then some true else iJ.l0 k xs s (wrap64 ((i : Int) + 1))) _
      rw [Int.toNat_natCast]
      by_cases e : (xs.getD i ByteArray.empty).toList = s.toList
      · exact aAb e (aAy (aAf fun _ => rfl) (by rw [e]; simp))
      · refine aAd e ?_
        rw [aBk hi hn]
        exact aAy (ih (i + 1) (by omega) (by omega)) (by rw [show ((xs.getD i ByteArray.empty).toList == s.toList) = false from beq_eq_false_iff_ne.mpr e, Bool.false_or])
  exact aAy (h xs.length 0 (by omega) (by omega)) (by rw [List.drop_zero])
theorem aMf (xs : List ByteArray) (s : ByteArray) (hn : xs.length ≤ 9223372036854775807) : Ev (fun k => eO.f k xs s) (xs.any fun x => x.toList == s.toList) := by
  have h : ∀ (n i : Nat), xs.length - i = n → i ≤ xs.length → ∃ j, Ev (fun k => bL.l0 k xs s (xs.length : Int) (i : Int)) j ∧ decide (j ≥ 0) = (xs.drop i).any fun x => x.toList == s.toList := by
    intro n
    induction n with
    | zero =>
      intro i h1 h2
      refine ⟨-1, Ev.step (fun k => rfl) (aAd (by omega) (aAf fun _ => rfl)), ?_⟩
      rw [show i = xs.length by omega, List.drop_length]
      rfl
    | succ n ih =>
      intro i h1 h2
      have hi : i < xs.length := by omega
      by_cases e : s.toList = (xs.getD i ByteArray.empty).toList
      · refine ⟨i, Ev.step (fun k => rfl) (aAb (by omega) (aAb (by omega) (aAb (by omega) ?_))), ?_⟩
        · show Ev (fun k => if s.toList = (xs.getD (i : Int).toNat ByteArray.empty).toList then some (i : Int) else bL.l0 k xs s (xs.length : Int) (wrap64 ((i : Int) + 1))) _
          rw [Int.toNat_natCast]
          exact aAb e (aAf fun _ => rfl)
        · rw [aBb ByteArray.empty hi, List.any_cons]
          rw [← e]
          simp
      · obtain ⟨j, hj, hd⟩ := ih (i + 1) (by omega) (by omega)
        refine ⟨j, Ev.step (fun k => rfl) (aAb (by omega) (aAb (by omega) (aAb (by omega) ?_))), ?_⟩
        · show Ev (fun k => if s.toList = (xs.getD (i : Int).toNat ByteArray.empty).toList then some (i : Int) else bL.l0 k xs s (xs.length : Int) (wrap64 ((i : Int) + 1))) _
          rw [Int.toNat_natCast, aBk hi hn]
          exact aAd e hj
        · rw [hd, aBb ByteArray.empty hi, List.any_cons]
          rw [show ((xs.getD i ByteArray.empty).toList == s.toList) = false from beq_eq_false_iff_ne.mpr fun h => e h.symm, Bool.false_or]
  obtain ⟨j, hj, hd⟩ := h xs.length 0 (by omega) (by omega)
  rw [List.drop_zero] at hd
  exact Ev.congr (fun k => rfl) (Ev.bind hj (f := fun k t => some (decide (t ≥ 0))) (aAy (aAf fun _ => rfl) hd))
def opsL : List ByteArray := [(⟨#[43]⟩ : ByteArray), (⟨#[45]⟩ : ByteArray), (⟨#[42]⟩ : ByteArray), (⟨#[47]⟩ : ByteArray), (⟨#[61]⟩ : ByteArray), (⟨#[60]⟩ : ByteArray), (⟨#[126]⟩ : ByteArray), (⟨#[97, 110, 100]⟩ : ByteArray), (⟨#[111, 114]⟩ : ByteArray)]
def aRd (op : ByteArray) : Bool := opsL.any fun x => x.toList == op.toList
def aSn (a n v0 v1 : Int) (v2 op : ByteArray) (c : Nat) : Bool :=
  if a = 0 then decide (0 ≤ n ∧ n ≤ 11) && aDk v0 v1 v2 && (op.toList == ([] : List UInt8)) && c == 0
  else if a = 1 then okV v0 v1 v2.data.toList && (n == 0) && (op.toList == ([] : List UInt8)) && c == 0
  else if a = 2 then aRd op && (n == 0) && aDk v0 v1 v2 && c == 2
  else if a = 3 ∨ a = 4 then (n == 0) && aDk v0 v1 v2 && (op.toList == ([] : List UInt8)) && c == 1
  else false
def okE : Nat → S39 → Bool
  | 0, _ => false
  | m + 1, y => aSn y.f0 y.f1 y.f2.f0 y.f2.f1 y.f2.f2 y.f3 y.f4.length && y.f4.all (okE m)
theorem aNr (n : Int) : mI.f n = some (decide (0 ≤ n ∧ n ≤ 11)) := by
  unfold mI.f dF.f
  by_cases h : 0 ≤ n <;> simp [h]
theorem aUt (op : ByteArray) : Ev (fun k => yT.f k op) (aRd op) :=
  Ev.congr (fun k => rfl) (Ev.bind (aMf opsL op (by decide)) (f := fun k t => some t) (aAf fun _ => rfl))
theorem aIr {α : Type} {f : Nat → α → Option Bool} {g : α → Bool} : ∀ {xs : List α}, (∀ x ∈ xs, Ev (fun k => f k x) (g x)) → Ev (fun k => aHn (f k) xs) (xs.all g)
  | [], _ => aAf fun _ => rfl
  | x :: xs, h => by
    refine Ev.congr (fun k => rfl) (Ev.bind (h x (by simp)) (f := fun k t => if t = true then aHn (f k) xs else some false) ?_)
    cases hx : g x with
    | true => exact aAb rfl (aAy (aIr fun y hy => h y (by simp [hy])) (by simp [hx]))
    | false => exact aAd (by simp) (aAy (aAf fun _ => rfl) (by simp [hx]))
theorem aMb (b : Bool) (c : Nat) (kn : Int) (m : Nat) (h : kn = m) : (if b = true then decide ((c : Int) = kn) else false) = (b && c == m) := by
  subst h
  cases b with
  | false => rfl
  | true =>
    rw [if_pos rfl, Bool.true_and, Bool.eq_iff_iff, decide_eq_true_iff, beq_iff_eq]
    omega
theorem aNk (a n v0 v1 : Int) (v2 op : ByteArray) : ∃ kn rt, Ev (fun k => aEn k a n v0 v1 v2 op) (kn, rt) ∧ ∀ c : Nat, (if rt = true then decide ((c : Int) = kn) else false) = aSn a n v0 v1 v2 op c := by
  unfold aEn aSn
  by_cases a0 : a = 0
  · exact ⟨0, _, aAb a0 (aBr (aNr n) (aAf fun _ => rfl)), fun c => by rw [if_pos a0]; exact aMb _ c 0 0 rfl⟩
  by_cases a1 : a = 1
  · exact ⟨0, _, aAd a0 (aAb a1 (aBr (aGk v0 v1 v2) (aAf fun _ => rfl))), fun c => by rw [if_neg a0, if_pos a1]; exact aMb _ c 0 0 rfl⟩
  by_cases a2 : a = 2
  · exact ⟨2, _, aAd a0 (aAd a1 (aAb a2 (Ev.bind (aUt op) (aAf fun _ => rfl)))), fun c => by rw [if_neg a0, if_neg a1, if_pos a2]; exact aMb _ c 2 2 rfl⟩
  by_cases a3 : a = 3 ∨ a = 4
  · exact ⟨1, _, aAd a0 (aAd a1 (aAd a2 (aAb a3 (aAf fun _ => rfl)))), fun c => by rw [if_neg a0, if_neg a1, if_neg a2, if_pos a3]; exact aMb _ c 1 1 rfl⟩
  · exact ⟨0, false, aAd a0 (aAd a1 (aAd a2 (aAd a3 (aAf fun _ => rfl)))), fun c => by simp [a0, a1, a2, a3]⟩
theorem a0E : ∀ (m : Nat) (y : S39) (d : Int), m ≤ 13 → d = 13 - m → aIb m y → Ev (fun k => lF.f k y.f0 y.f1 y.f2.f0 y.f2.f1 y.f2.f2 y.f3 y.f4 d) (okE m y) := by
  intro m
  induction m with
  | zero =>
    intro y d hm hd _
    obtain ⟨kn, rt, hs, _⟩ := aNk y.f0 y.f1 y.f2.f0 y.f2.f1 y.f2.f2 y.f3
    refine Ev.step (fun k => rfl) (Ev.bind hs ?_)
    cases rt with
    | false => exact aAd (by simp) (aAf fun _ => rfl)
    | true => exact aAb rfl (aAd (by omega) (aAf fun _ => rfl))
  | succ m ih =>
    intro y d hm hd hy
    obtain ⟨kn, rt, hs, hl⟩ := aNk y.f0 y.f1 y.f2.f0 y.f2.f1 y.f2.f2 y.f3
    have hl := hl y.f4.length
    refine Ev.step (fun k => rfl) (Ev.bind hs ?_)
    cases rt with
    | false => exact aAd (by simp) (aAy (aAf fun _ => rfl) (by simp only [okE]; rw [← hl]; simp))
    | true =>
      rw [if_pos rfl] at hl
      refine aAb rfl (aAb (by omega) ?_)
      by_cases e : (y.f4.length : Int) = kn
      · refine aAb e (aAy (aIr (g := okE m) fun x hx => ?_) (by simp only [okE]; rw [← hl]; simp [e]))
        rw [aDl (x := d + 1) (by omega) (by omega)]
        exact ih x (d + 1) (by omega) (by omega) (hy.2 x hx)
      · exact aAd e (aAy (aAf fun _ => rfl) (by simp only [okE]; rw [← hl]; simp [e]))
theorem aTc (a b c : Int) : bN.f a b c = some (decide (b ≤ a ∧ a ≤ c)) := by
  unfold bN.f
  by_cases h : b ≤ a <;> simp [h]
theorem aWa (a n v0 v1 : Int) (v2 op : ByteArray) (l : List S39) (hl : l.length ≤ 1048576) : Ev (fun k => dD.j1 k (if n = 0 then aDk v0 v1 v2 else false) a n v0 v1 v2 op l) (aSn a n v0 v1 v2 op l.length) := by
  have hc0 : ((l.length : Int) == 0) = (l.length == 0) := by rw [Bool.eq_iff_iff, beq_iff_eq, beq_iff_eq]; omega
  have hc1 : ((l.length : Int) == 1) = (l.length == 1) := by rw [Bool.eq_iff_iff, beq_iff_eq, beq_iff_eq]; omega
  unfold aSn
  by_cases a0 : a = 0
  · rw [if_pos a0]
    refine Ev.step (fun k => rfl) (aAb a0 (aBr (aTc n 0 11) ?_))
    cases decide (0 ≤ n ∧ n ≤ 11) with
    | false => exact aAd (by simp) (aAy (aAf fun _ => rfl) (by simp))
    | true =>
      refine aAb rfl ?_
      cases hz : aDk v0 v1 v2 with
      | false => exact aAd (by have := hz; unfold aDk at this; rw [this]; simp) (aAy (aAf fun _ => rfl) (by simp))
      | true =>
        refine aAb hz ?_
        by_cases e : op.toList = ([] : List UInt8)
        · exact aAb e (aAy (aAf fun _ => rfl) (by rw [hc0]; simp [e]))
        · exact aAd e (aAy (aAf fun _ => rfl) (by simp [e]))
  rw [if_neg a0]
  by_cases a1 : a = 1
  · rw [if_pos a1]
    refine Ev.step (fun k => rfl) (aAd a0 (aAb a1 (aBr (aFb v0 v1 v2) ?_)))
    cases okV v0 v1 v2.data.toList with
    | false => exact aAd (by simp) (aAy (aAf fun _ => rfl) (by simp))
    | true =>
      refine aAb rfl ?_
      by_cases e0 : n = 0
      · refine aAb e0 ?_
        by_cases e : op.toList = ([] : List UInt8)
        · exact aAb e (aAy (aAf fun _ => rfl) (by rw [hc0]; simp [e, e0]))
        · exact aAd e (aAy (aAf fun _ => rfl) (by simp [e]))
      · exact aAd e0 (aAy (aAf fun _ => rfl) (by simp [e0]))
  rw [if_neg a1]
  have hp : (if n = 0 then aDk v0 v1 v2 else false) = ((n == 0) && aDk v0 v1 v2) := by by_cases e : n = 0 <;> simp [e]
  rw [hp]
  by_cases a2 : a = 2
  · rw [if_pos a2]
    refine Ev.step (fun k => rfl) (aAd a0 (aAd a1 (aAb a2 ?_)))
    cases hq : ((n == 0) && aDk v0 v1 v2) with
    | false => exact aAd (by simp) (aAy (aAf fun _ => rfl) (by rw [Bool.and_assoc (aRd op), hq]; simp))
    | true =>
      refine aAb rfl ?_
      by_cases e : (l.length : Int) = 2
      · refine aAb e (aAy (Ev.bind (aRq opsL op (by decide)) (f := fun k t => some t) (aAf fun _ => rfl)) ?_)
        rw [Bool.and_assoc (aRd op), hq, show l.length = 2 by omega]
        simp [aRd]
      · exact aAd e (aAy (aAf fun _ => rfl) (by rw [show (l.length == 2) = false from beq_eq_false_iff_ne.mpr (by omega)]; simp))
  rw [if_neg a2]
  by_cases a3 : a = 3
  · rw [if_pos (Or.inl a3)]
    refine Ev.step (fun k => rfl) (aAd a0 (aAd a1 (aAd a2 (aAb a3 ?_))))
    cases hq : ((n == 0) && aDk v0 v1 v2) with
    | false => exact aAd (by simp) (aAy (aAf fun _ => rfl) (by simp))
    | true =>
      refine aAb rfl ?_
      by_cases e : op.toList = ([] : List UInt8)
      · exact aAb e (aAy (aAf fun _ => rfl) (by rw [hc1]; simp [e]))
      · exact aAd e (aAy (aAf fun _ => rfl) (by simp [e]))
  by_cases a4 : a = 4
  · rw [if_pos (Or.inr a4)]
    refine Ev.step (fun k => rfl) (aAd a0 (aAd a1 (aAd a2 (aAd a3 (aAb a4 ?_)))))
    cases hq : ((n == 0) && aDk v0 v1 v2) with
    | false => exact aAd (by simp) (aAy (aAf fun _ => rfl) (by simp))
    | true =>
      refine aAb rfl ?_
      by_cases e : op.toList = ([] : List UInt8)
      · exact aAb e (aAy (aAf fun _ => rfl) (by rw [hc1]; simp [e]))
      · exact aAd e (aAy (aAf fun _ => rfl) (by simp [e]))
  · rw [if_neg (by omega)]
    exact Ev.step (fun k => rfl) (aAd a0 (aAd a1 (aAd a2 (aAd a3 (aAd a4 (aAf fun _ => rfl))))))
theorem U1 : ∀ (m : Nat) (y : S39) (d : Int), m ≤ 1000 → d = (m : Int) - 1 → aIb m y → Ev (fun k => dD.f k y.f0 y.f1 y.f2.f0 y.f2.f1 y.f2.f2 y.f3 y.f4 d) (okE m y) := by
  intro m
  induction m with
  | zero =>
    intro y d hm hd _
    exact Ev.step (fun k => rfl) (aAb (by omega) (aAf fun _ => rfl))
  | succ m ih =>
    intro y d hm hd hy
    obtain ⟨hl, hk⟩ := hy
    refine Ev.step (fun k => rfl) (aAd (by omega) ?_)
    have fin : ∀ r : Bool, (r = true ↔ aSn y.f0 y.f1 y.f2.f0 y.f2.f1 y.f2.f2 y.f3 y.f4.length = true) → Ev (fun k => dD.l0 k d (y.f4.length : Int) y.f0 y.f1 y.f2.f0 y.f2.f1 y.f2.f2 y.f3 y.f4) r := by
      intro r hr
      have e : r = aSn y.f0 y.f1 y.f2.f0 y.f2.f1 y.f2.f2 y.f3 y.f4.length := by rw [Bool.eq_iff_iff]; exact hr
      rw [e]
      refine Ev.step (fun k => rfl) (aAd (by omega) ?_)
      have j := aWa y.f0 y.f1 y.f2.f0 y.f2.f1 y.f2.f2 y.f3 y.f4 hl
      by_cases e0 : y.f1 = 0
      · rw [if_pos e0] at j
        exact aAb e0 j
      · rw [if_neg e0] at j
        exact aAd e0 j
    refine aEy y.f4.length (fun k i => dD.l0 k d i y.f0 y.f1 y.f2.f0 y.f2.f1 y.f2.f2 y.f3 y.f4) (fun j => okE m (y.f4.getD j z39) = true) (aSn y.f0 y.f1 y.f2.f0 y.f2.f1 y.f2.f2 y.f3 y.f4.length = true) fin ?_ (okE (m + 1) y) ?_
    · intro i hi r hg hb
      refine Ev.step (fun k => rfl) (aAb (by omega) (aAb (by omega) ?_))
      have e := ih (y.f4.getD i z39) (wrap64 (d - 1)) (by omega) (by rw [aDl (by omega) (by omega)]; omega) (hk _ (aCd _ hi))
      refine Ev.bind (a := okE m (y.f4.getD i z39)) e ?_
      cases ho : okE m (y.f4.getD i z39) with
      | true =>
        refine aAb rfl ?_
        rw [aBk hi (by omega)]
        exact hg ho
      | false => exact aAd (by simp) (aAy (aAf fun _ => rfl) (hb fun h => by rw [ho] at h; cases h).symm)
    · rw [aDw z39 (p := fun x => okE m x = true)]
      simp only [okE, Bool.and_eq_true, List.all_eq_true]
      exact And.comm
theorem a0K (y : S39) (h : aIb 13 y) : Ev (fun k => uS.f k y.f0 y.f1 y.f2.f0 y.f2.f1 y.f2.f2 y.f3 y.f4) (okE 13 y) :=
  Ev.congr (fun k => rfl) (Ev.bind (a0E 13 y 0 (by omega) (by omega) h) (f := fun k t => some t) (aAf fun _ => rfl))
theorem a0G (y : S39) (h : aIb 13 y) : Ev (fun k => oI.f k y.f0 y.f1 y.f2.f0 y.f2.f1 y.f2.f2 y.f3 y.f4) (okE 13 y) :=
  Ev.congr (fun k => rfl) (Ev.bind (U1 13 y 12 (by omega) (by omega) h) (f := fun k t => some t) (aAf fun _ => rfl))
theorem aJt : ∀ (n m : Nat) (x : S27), n ≤ m → aNy n x → aNy m x
  | 0, _, _, _, h => h.elim
  | n + 1, 0, _, hm, _ => absurd hm (by omega)
  | n + 1, m + 1, x, hm, h => ⟨h.1, h.2.1, h.2.2.1, fun y hy => aJt n m y (by omega) (h.2.2.2 y hy)⟩
theorem aRv {l : Int} {w r : Nat} (h : (w : Int) ≤ l) : lft l (w + r) = lft (l - w) r := by
  by_cases g : (r : Int) ≤ l - w
  · rw [aBl g, aBl (by omega)]
    omega
  · rw [aBd g, aBd (by omega)]
theorem aLz {l : Int} {w rest : Nat} (h0 : 0 ≤ l) (f : Int → Option Int) (hf : (w : Int) ≤ l → f (l - w) = some (lft (l - w) rest)) : ((some (lft l w)).bind fun t => if t < 0 then some (-1) else f t) = some (lft l (w + rest)) := by
  rw [Option.bind_some]
  by_cases h : (w : Int) ≤ l
  · rw [aBl h, if_neg (by omega), hf h, aRv h]
  · rw [aBd h, if_pos (by omega), aBd (by omega)]
theorem aRh (e : Nat) (xs : List S27) (hn : xs.length ≤ 9223372036854775807) (h : ∀ y ∈ xs, aNy e y) : ∃ K, ∀ k, K ≤ k → ∀ l, 0 ≤ l → l ≤ 1048576 → eP.f (eT.f k) k xs l = some (lft l (xs.length + (xs.map (aGf e)).sum)) := by
  obtain ⟨K, hK⟩ := aEl (xs := xs) (P := fun k y => ∀ l, 0 ≤ l → l ≤ 1048576 → eT.f k y.f0 y.f1 y.f2.f0 y.f2.f1 y.f2.f2 y.f3 y.f4 l = some (lft l (aGf e y))) fun y hy => aLm e y (h y hy)
  exact ⟨max K (xs.length + 1), fun k hk l h0 h1 => aLr z27 (eP.f (eT.f k)) (eP.l0 (eT.f k)) (fun y l => eT.f k y.f0 y.f1 y.f2.f0 y.f2.f1 y.f2.f2 y.f3 y.f4 l) (aGf e) (fun _ _ _ => rfl) (fun _ _ _ _ => rfl) xs hn (fun y hy l a b => hK k (by omega) y hy l a b) k (by omega) l h0 h1⟩
def okP (e : Nat) : Nat → S30 → Prop
  | 0, _ => False
  | n + 1, x => x.f1.size ≤ 9223372036854775807 ∧ aNy e x.f2 ∧ x.f3.length ≤ 9223372036854775807 ∧ (∀ y ∈ x.f3, aNy e y) ∧ x.f5.length ≤ 9223372036854775807 ∧ ∀ y ∈ x.f5, okP e n y
def wtP (e : Nat) : Nat → S30 → Nat
  | 0, _ => 0
  | n + 1, x => x.f1.size + (aGf e x.f2 + ((x.f3.length + (x.f3.map (aGf e)).sum) + (x.f5.length + (x.f5.map (wtP e n)).sum)))
theorem aMw (e : Nat) : ∀ (n : Nat) (x : S30), okP e n x → ∃ K, ∀ k, K ≤ k → ∀ l, 0 ≤ l → l ≤ 1048576 → iC.f k x.f0 x.f1 x.f2.f0 x.f2.f1 x.f2.f2.f0 x.f2.f2.f1 x.f2.f2.f2 x.f2.f3 x.f2.f4 x.f3 x.f4 x.f5 l = some (lft l (wtP e n x))
  | 0, _, h => h.elim
  | n + 1, x, h => by
    obtain ⟨h1, h2, h3, h3', h5, h5'⟩ := h
    obtain ⟨K, hK⟩ := aEl (xs := x.f5) (P := fun k y => ∀ l, 0 ≤ l → l ≤ 1048576 → iC.f k y.f0 y.f1 y.f2.f0 y.f2.f1 y.f2.f2.f0 y.f2.f2.f1 y.f2.f2.f2 y.f2.f3 y.f2.f4 y.f3 y.f4 y.f5 l = some (lft l (wtP e n y))) fun y hy => aMw e n y (h5' y hy)
    obtain ⟨K2, hK2⟩ := aLm e x.f2 h2
    obtain ⟨K3, hK3⟩ := aRh e x.f3 h3 h3'
    refine ⟨max (max K K2) (max K3 (x.f5.length + 1)) + 1, fun k hk l h0 hl => ?_⟩
    obtain ⟨k, rfl⟩ : ∃ m, k = m + 1 := ⟨k - 1, by omega⟩
    show (if wrap64 (l - (x.f1.size : Int)) < 0 then some (-1) else _) = _
    rw [aDl (x := l - (x.f1.size : Int)) (by omega) (by omega)]
    unfold wtP
    by_cases a : (x.f1.size : Int) ≤ l
    · rw [if_neg (by omega), hK2 k (by omega) _ (by omega) (by omega), aRv a]
      refine aLz (by omega) _ (fun b => ?_)
      rw [hK3 k (by omega) _ (by omega) (by omega)]
      refine aLz (by omega) _ (fun c => ?_)
      rw [aLr z30 (gV.f (iC.f k)) (gV.l0 (iC.f k)) (fun y l => iC.f k y.f0 y.f1 y.f2.f0 y.f2.f1 y.f2.f2.f0 y.f2.f2.f1 y.f2.f2.f2 y.f2.f3 y.f2.f4 y.f3 y.f4 y.f5 l) (wtP e n) (fun _ _ _ => rfl) (fun _ _ _ _ => rfl) x.f5 h5 (fun y hy l a b => hK k (by omega) y hy l a b) k (by omega) _ (by omega) (by omega)]
      exact aLz (rest := 0) (by omega) some (fun d => by rw [aBl (by omega)]; simp)
    · rw [if_pos (by omega), aBd (by omega)]
theorem aNu {e n : Nat} {x y : S30} {b : Nat} (h : wtP e (n + 1) x ≤ b) (hy : y ∈ x.f5) : wtP e n y ≤ b := by
  have := aDe (wtP e n) hy
  unfold wtP at h
  omega
theorem aJu {e n : Nat} {x : S30} {b : Nat} (h : wtP e (n + 1) x ≤ b) : aGf e x.f2 ≤ b ∧ x.f3.length ≤ b ∧ x.f5.length ≤ b ∧ ∀ y ∈ x.f3, aGf e y ≤ b := by
  unfold wtP at h
  refine ⟨by omega, by omega, by omega, fun y hy => ?_⟩
  have := aDe (aGf e) hy
  omega
theorem aRc (e : Nat) (xs : List S27) (hn : xs.length ≤ 1048576) (h : ∀ y ∈ xs, aNy e y) (hw : ∀ y ∈ xs, aGf e y ≤ 1048576) : ∃ K, ∀ k, K ≤ k → eQ.f (fE.f k) k xs = some (xs.map (aBy e)) := by
  obtain ⟨K, hK⟩ := aEl (xs := xs) (P := fun k y => fE.f k y.f0 y.f1 y.f2.f0 y.f2.f1 y.f2.f2 y.f3 y.f4 = some ((aBy e y).f0, (aBy e y).f1, (aBy e y).f2.f0, (aBy e y).f2.f1, (aBy e y).f2.f2, (aBy e y).f3, (aBy e y).f4)) fun y hy => aLw e y (h y hy) (hw y hy)
  refine ⟨max K (xs.length + 1), fun k hk => ?_⟩
  rw [aJs z27 z39 (eQ.f (fE.f k)) (eQ.l0 (fE.f k)) (fun y => fE.f k y.f0 y.f1 y.f2.f0 y.f2.f1 y.f2.f2 y.f3 y.f4) (fun bt => (⟨bt.1, bt.2.1, (⟨bt.2.2.1, bt.2.2.2.1, bt.2.2.2.2.1⟩ : S36), bt.2.2.2.2.2.1, bt.2.2.2.2.2.2⟩ : S39)) (fun y => ((aBy e y).f0, (aBy e y).f1, (aBy e y).f2.f0, (aBy e y).f2.f1, (aBy e y).f2.f2, (aBy e y).f3, (aBy e y).f4)) 3198579280802 (fun _ _ => rfl) (fun _ _ _ _ => rfl) xs (by omega) (by omega) (fun y hy => hK k (by omega) y hy) k (by omega)]
  have hm : ∀ y : S39, (⟨y.f0, y.f1, (⟨y.f2.f0, y.f2.f1, y.f2.f2⟩ : S36), y.f3, y.f4⟩ : S39) = y := fun y => by cases y; rfl
  exact congrArg some (List.map_congr_left fun y _ => hm (aBy e y))
def aBz (e : Nat) : Nat → S30 → S42
  | 0, _ => z42
  | n + 1, x => ⟨x.f0, x.f1, aBy e x.f2, x.f3.map (aBy e), x.f4, x.f5.map (aBz e n)⟩
theorem aMi (e : Nat) : ∀ (n : Nat) (x : S30), okP e n x → wtP e n x ≤ 1048576 → ∃ K, ∀ k, K ≤ k → jF.f k x.f0 x.f1 x.f2.f0 x.f2.f1 x.f2.f2.f0 x.f2.f2.f1 x.f2.f2.f2 x.f2.f3 x.f2.f4 x.f3 x.f4 x.f5 = some ((aBz e n x).f0, (aBz e n x).f1, (aBz e n x).f2.f0, (aBz e n x).f2.f1, (aBz e n x).f2.f2.f0, (aBz e n x).f2.f2.f1, (aBz e n x).f2.f2.f2, (aBz e n x).f2.f3, (aBz e n x).f2.f4, (aBz e n x).f3, (aBz e n x).f4, (aBz e n x).f5)
  | 0, _, h, _ => h.elim
  | n + 1, x, h, hw => by
    obtain ⟨h1, h2, h3, h3', h5, h5'⟩ := h
    obtain ⟨w2, w3, w5, w3'⟩ := aJu hw
    obtain ⟨K, hK⟩ := aEl (xs := x.f5) (P := fun k y => jF.f k y.f0 y.f1 y.f2.f0 y.f2.f1 y.f2.f2.f0 y.f2.f2.f1 y.f2.f2.f2 y.f2.f3 y.f2.f4 y.f3 y.f4 y.f5 = some ((aBz e n y).f0, (aBz e n y).f1, (aBz e n y).f2.f0, (aBz e n y).f2.f1, (aBz e n y).f2.f2.f0, (aBz e n y).f2.f2.f1, (aBz e n y).f2.f2.f2, (aBz e n y).f2.f3, (aBz e n y).f2.f4, (aBz e n y).f3, (aBz e n y).f4, (aBz e n y).f5)) fun y hy => aMi e n y (h5' y hy) (aNu hw hy)
    obtain ⟨K2, hK2⟩ := aLw e x.f2 h2 w2
    obtain ⟨K3, hK3⟩ := aRc e x.f3 w3 h3' w3'
    refine ⟨max (max K K2) (max K3 (x.f5.length + 1)) + 1, fun k hk => ?_⟩
    obtain ⟨k, rfl⟩ : ∃ m, k = m + 1 := ⟨k - 1, by omega⟩
    show ((fE.f k x.f2.f0 x.f2.f1 x.f2.f2.f0 x.f2.f2.f1 x.f2.f2.f2 x.f2.f3 x.f2.f4).bind _) = _
    rw [hK2 k (by omega), Option.bind_some, hK3 k (by omega), Option.bind_some]
    rw [aJs z30 z42 (gG.f (jF.f k)) (gG.l0 (jF.f k)) (fun y => jF.f k y.f0 y.f1 y.f2.f0 y.f2.f1 y.f2.f2.f0 y.f2.f2.f1 y.f2.f2.f2 y.f2.f3 y.f2.f4 y.f3 y.f4 y.f5) (fun bt => (⟨bt.1, bt.2.1, (⟨bt.2.2.1, bt.2.2.2.1, (⟨bt.2.2.2.2.1, bt.2.2.2.2.2.1, bt.2.2.2.2.2.2.1⟩ : S36), bt.2.2.2.2.2.2.2.1, bt.2.2.2.2.2.2.2.2.1⟩ : S39), bt.2.2.2.2.2.2.2.2.2.1, bt.2.2.2.2.2.2.2.2.2.2.1, bt.2.2.2.2.2.2.2.2.2.2.2⟩ : S42)) (fun y => ((aBz e n y).f0, (aBz e n y).f1, (aBz e n y).f2.f0, (aBz e n y).f2.f1, (aBz e n y).f2.f2.f0, (aBz e n y).f2.f2.f1, (aBz e n y).f2.f2.f2, (aBz e n y).f2.f3, (aBz e n y).f2.f4, (aBz e n y).f3, (aBz e n y).f4, (aBz e n y).f5)) 1675446289944 (fun _ _ => rfl) (fun _ _ _ _ => rfl) x.f5 (by omega) (by omega) (fun y hy => hK k (by omega) y hy) k (by omega), Option.bind_some]
    have hm : ∀ y : S42, (⟨y.f0, y.f1, (⟨y.f2.f0, y.f2.f1, (⟨y.f2.f2.f0, y.f2.f2.f1, y.f2.f2.f2⟩ : S36), y.f2.f3, y.f2.f4⟩ : S39), y.f3, y.f4, y.f5⟩ : S42) = y := fun y => by
      cases y with
      | mk a b c d e f => cases c; rfl
    have he : aBz e (n + 1) x = ⟨x.f0, x.f1, aBy e x.f2, x.f3.map (aBy e), x.f4, x.f5.map (aBz e n)⟩ := by simp only [aBz]
    rw [he]
    exact congrArg (fun l => some (x.f0, x.f1, (aBy e x.f2).f0, (aBy e x.f2).f1, (aBy e x.f2).f2.f0, (aBy e x.f2).f2.f1, (aBy e x.f2).f2.f2, (aBy e x.f2).f3, (aBy e x.f2).f4, x.f3.map (aBy e), x.f4, l)) (List.map_congr_left fun y _ => hm (aBz e n y))
theorem aOm (e : Nat) (xs : List S27) (hn : xs.length ≤ 1048576) (h : ∀ y ∈ xs, aNy e y) (hw : ∀ y ∈ xs, aGf e y ≤ 1048576) : ∃ K, ∀ k, K ≤ k → cK.f (dW.f k) k (xs.map (aBy e)) (xs.map (aBy e)) = some true := by
  obtain ⟨K, hK⟩ := aEl (xs := xs) (P := fun k y => dW.f k (aBy e y).f0 (aBy e y).f1 (aBy e y).f2.f0 (aBy e y).f2.f1 (aBy e y).f2.f2 (aBy e y).f3 (aBy e y).f4 (aBy e y).f0 (aBy e y).f1 (aBy e y).f2.f0 (aBy e y).f2.f1 (aBy e y).f2.f2 (aBy e y).f3 (aBy e y).f4 = some true) fun y hy => aHt e y (h y hy) (hw y hy)
  refine ⟨max K (xs.length + 1), fun k hk => ?_⟩
  exact aLp z39 (cK.f (dW.f k)) (cK.l0 (dW.f k)) (fun y z => dW.f k y.f0 y.f1 y.f2.f0 y.f2.f1 y.f2.f2 y.f3 y.f4 z.f0 z.f1 z.f2.f0 z.f2.f1 z.f2.f2 z.f3 z.f4) (fun _ _ _ => rfl) (fun _ _ _ _ => rfl) (xs.map (aBy e)) (by rw [List.length_map]; omega) (fun y hy => by
      obtain ⟨u, hu, rfl⟩ := List.mem_map.1 hy
      exact hK k (by omega) u hu) k (by rw [List.length_map]; omega)
theorem aIz (e : Nat) : ∀ (n : Nat) (x : S30), okP e n x → wtP e n x ≤ 1048576 → ∃ K, ∀ k, K ≤ k → iL.f k (aBz e n x).f0 (aBz e n x).f1 (aBz e n x).f2.f0 (aBz e n x).f2.f1 (aBz e n x).f2.f2.f0 (aBz e n x).f2.f2.f1 (aBz e n x).f2.f2.f2 (aBz e n x).f2.f3 (aBz e n x).f2.f4 (aBz e n x).f3 (aBz e n x).f4 (aBz e n x).f5 (aBz e n x).f0 (aBz e n x).f1 (aBz e n x).f2.f0 (aBz e n x).f2.f1 (aBz e n x).f2.f2.f0 (aBz e n x).f2.f2.f1 (aBz e n x).f2.f2.f2 (aBz e n x).f2.f3 (aBz e n x).f2.f4 (aBz e n x).f3 (aBz e n x).f4 (aBz e n x).f5 = some true
  | 0, _, h, _ => h.elim
  | n + 1, x, h, hw => by
    obtain ⟨h1, h2, h3, h3', h5, h5'⟩ := h
    obtain ⟨w2, w3, w5, w3'⟩ := aJu hw
    obtain ⟨K, hK⟩ := aEl (xs := x.f5) (P := fun k x => iL.f k (aBz e n x).f0 (aBz e n x).f1 (aBz e n x).f2.f0 (aBz e n x).f2.f1 (aBz e n x).f2.f2.f0 (aBz e n x).f2.f2.f1 (aBz e n x).f2.f2.f2 (aBz e n x).f2.f3 (aBz e n x).f2.f4 (aBz e n x).f3 (aBz e n x).f4 (aBz e n x).f5 (aBz e n x).f0 (aBz e n x).f1 (aBz e n x).f2.f0 (aBz e n x).f2.f1 (aBz e n x).f2.f2.f0 (aBz e n x).f2.f2.f1 (aBz e n x).f2.f2.f2 (aBz e n x).f2.f3 (aBz e n x).f2.f4 (aBz e n x).f3 (aBz e n x).f4 (aBz e n x).f5 = some true) fun y hy => aIz e n y (h5' y hy) (aNu hw hy)
    obtain ⟨K2, hK2⟩ := aHt e x.f2 h2 w2
    obtain ⟨K3, hK3⟩ := aOm e x.f3 w3 h3' w3'
    refine ⟨max (max K K2) (max K3 (x.f5.length + 1)) + 1, fun k hk => ?_⟩
    obtain ⟨k, rfl⟩ : ∃ m, k = m + 1 := ⟨k - 1, by omega⟩
    have q := aLp z42 (dP.f (iL.f k)) (dP.l0 (iL.f k)) (fun y z => iL.f k y.f0 y.f1 y.f2.f0 y.f2.f1 y.f2.f2.f0 y.f2.f2.f1 y.f2.f2.f2 y.f2.f3 y.f2.f4 y.f3 y.f4 y.f5 z.f0 z.f1 z.f2.f0 z.f2.f1 z.f2.f2.f0 z.f2.f2.f1 z.f2.f2.f2 z.f2.f3 z.f2.f4 z.f3 z.f4 z.f5) (fun _ _ _ => rfl) (fun _ _ _ _ => rfl) (x.f5.map (aBz e n)) (by rw [List.length_map]; omega) (fun y hy => by
      obtain ⟨u, hu, rfl⟩ := List.mem_map.1 hy
      exact hK k (by omega) u hu) k (by rw [List.length_map]; omega)
    have he : aBz e (n + 1) x = ⟨x.f0, x.f1, aBy e x.f2, x.f3.map (aBy e), x.f4, x.f5.map (aBz e n)⟩ := by simp only [aBz]
    rw [he]
    show (if x.f0 = x.f0 then (if x.f1.toList = x.f1.toList then _ else _) else _) = _
    rw [if_pos rfl, if_pos rfl, hK2 k (by omega), Option.bind_some, if_pos rfl, hK3 k (by omega), Option.bind_some, if_pos rfl]
    show (if x.f4 = x.f4 then _ else _) = _
    rw [if_pos rfl, q]
    rfl
def aEi (a : ByteArray) : List S68 → Option S68
  | [] => none
  | x :: xs => if x.f0.toList = a.toList then some x else aEi a xs
def aSq : Option S68 → Int × List S126 × Bool
  | none => (0, [], false)
  | some x => (x.f1.f0, x.f1.f1, true)
theorem aMv (db : List S68) (hn : db.length ≤ 1048576) (a : ByteArray) : Ev (fun k => gL.f k db a) (aSq (aEi a db)) := by
  have loop : ∀ (m i : Nat), db.length - i = m → i ≤ db.length → Ev (fun k => gL.l0 k db a (i : Int)) (aSq (aEi a (db.drop i))) := by
    intro m
    induction m with
    | zero =>
      intro i h1 h2
      rw [List.drop_eq_nil_of_le (by omega)]
      exact Ev.step (fun k => rfl) (aAd (by omega) (aAf fun _ => rfl))
    | succ m ih =>
      intro i h1 h2
      have hi : i < db.length := by omega
      rw [aBb z68 hi]
      show Ev _ (aSq (if (db.getD i z68).f0.toList = a.toList then some (db.getD i z68) else aEi a (db.drop (i + 1))))
      by_cases hc : (db.getD i z68).f0.toList = a.toList
      · rw [if_pos hc]
        exact Ev.step (fun k => rfl) (aAb (by omega) (aAb (by omega) (aAb hc (aAf fun _ => rfl))))
      · rw [if_neg hc]
        refine Ev.step (fun k => rfl) (aAb (by omega) (aAb (by omega) (aAd hc ?_)))
        rw [aBk hi (by omega)]
        exact ih (i + 1) (by omega) (by omega)
  have h := loop db.length 0 (by omega) (Nat.zero_le _)
  rw [List.drop_zero] at h
  exact h
theorem aOv (a : ByteArray) : ∀ (xs : List S68) (n : Int), 0 ≤ n → ∃ i, aGj (eH.g a) xs n = some i ∧ ((i = -1 ∧ aEi a xs = none) ∨ (n ≤ i ∧ i < n + xs.length ∧ aEi a xs = some (xs.getD (i - n).toNat z68)))
  | [], n, _ => ⟨-1, rfl, Or.inl ⟨rfl, rfl⟩⟩
  | x :: xs, n, hn => by
    by_cases hc : x.f0.toList = a.toList
    · refine ⟨n, ?_, Or.inr ⟨by omega, by simp only [List.length_cons]; omega, ?_⟩⟩
      · show (eH.g a x).bind (fun b => if b = true then some n else _) = some n
        unfold eH.g
        rw [hc]; simp
      · rw [Int.sub_self]
        show (if x.f0.toList = a.toList then some x else _) = _
        rw [if_pos hc]; rfl
    · obtain ⟨i, h1, h2⟩ := aOv a xs (n + 1) (by omega)
      refine ⟨i, ?_, ?_⟩
      · show (eH.g a x).bind (fun b => if b = true then some n else aGj (eH.g a) xs (n + 1)) = some i
        unfold eH.g
        rw [show (x.f0.toList == a.toList) = false from beq_eq_false_iff_ne.2 hc]
        exact h1
      · have e : aEi a (x :: xs) = aEi a xs := if_neg hc
        rw [e]
        rcases h2 with h2 | ⟨g1, g2, g3⟩
        · exact Or.inl h2
        · refine Or.inr ⟨by omega, by simp only [List.length_cons]; omega, ?_⟩
          rw [g3, show (i - n).toNat = (i - (n + 1)).toNat + 1 by omega]
          rfl
def aYb : Option S68 → ByteArray × Int × List S126 × Bool
  | none => (⟨#[]⟩, 0, [], false)
  | some x => (x.f0, x.f1.f0, x.f1.f1, true)
theorem aKw (db : List S68) (a : ByteArray) : eH.f db a = some (aYb (aEi a db)) := by
  obtain ⟨i, h1, h2⟩ := aOv a db 0 (Int.le_refl _)
  unfold eH.f
  rw [h1, Option.bind_some]
  rcases h2 with ⟨rfl, h2⟩ | ⟨g1, g2, g3⟩
  · rw [if_pos (by decide), h2]; rfl
  · rw [if_neg (by omega), if_pos g1, if_pos (by omega), g3, Int.sub_zero]; rfl
def aFn : Nat → S39 → List Int
  | 0, _ => []
  | m + 1, y => (if y.f0 = 0 then [y.f1] else []) ++ y.f4.flatMap (aFn m)
def ndE : Nat → S39 → Nat
  | 0, _ => 0
  | m + 1, y => 1 + (y.f4.map (ndE m)).sum
def hE : Nat → S39 → Prop
  | 0, _ => False
  | m + 1, y => ∀ z ∈ y.f4, hE m z
def nE : Nat → S39 → Prop
  | 0, _ => True
  | m + 1, y => (Lit.int .i64 y.f1).wf = true ∧ y.f4.length ≤ 1048576 ∧ ∀ z ∈ y.f4, nE m z
theorem aQt {a n v0 v1 : Int} {v2 op : ByteArray} {c : Nat} (h : aSn a n v0 v1 v2 op c = true) : c ≤ 2 := by
  unfold aSn at h
  repeat' split at h
  all_goals first | (simp only [Bool.and_eq_true, beq_iff_eq] at h; have := h.2; omega) | cases h
theorem aMt {m : Nat} {y : S39} (h : okE (m + 1) y = true) : y.f4.length ≤ 2 ∧ ∀ z ∈ y.f4, okE m z = true := by
  unfold okE at h
  rw [Bool.and_eq_true, List.all_eq_true] at h
  exact ⟨aQt h.1, h.2⟩
theorem aGl {α β : Type} {f g : α → List β} : ∀ {l : List α}, (∀ x ∈ l, f x = g x) → l.flatMap f = l.flatMap g
  | [], _ => rfl
  | x :: l, h => by
    rw [List.flatMap_cons, List.flatMap_cons, h x (by simp), aGl fun y hy => h y (by simp [hy])]
theorem aLl : ∀ (m n : Nat) (y : S39), m ≤ n → okE m y = true → aFn n y = aFn m y
  | 0, _, _, _, h => by cases h
  | m + 1, 0, _, hm, _ => absurd hm (by omega)
  | m + 1, n + 1, y, hm, h => by
    unfold aFn
    rw [aGl fun z hz => aLl m n z (by omega) ((aMt h).2 z hz)]
theorem aJm {α β : Type} (f : α → List β) (g : α → Nat) : ∀ (l : List α), (∀ x ∈ l, (f x).length ≤ g x) → (l.flatMap f).length ≤ (l.map g).sum
  | [], _ => Nat.le_refl _
  | x :: l, h => by
    rw [List.flatMap_cons, List.length_append, List.map_cons, List.sum_cons]
    have h1 := h x (by simp)
    have h2 := aJm f g l fun y hy => h y (by simp [hy])
    omega
theorem aIg {α : Type} (g : α → Nat) (b : Nat) : ∀ (l : List α), (∀ x ∈ l, g x ≤ b) → (l.map g).sum ≤ l.length * b
  | [], _ => by simp
  | x :: l, h => by
    rw [List.map_cons, List.sum_cons, List.length_cons, Nat.succ_mul]
    have h1 := h x (by simp)
    have h2 := aIg g b l fun y hy => h y (by simp [hy])
    omega
theorem aJc : ∀ (m : Nat) (y : S39), okE m y = true → (aFn m y).length + 1 ≤ 4 ^ m
  | 0, _, h => by cases h
  | m + 1, y, h => by
    obtain ⟨h1, h2⟩ := aMt h
    unfold aFn
    have hl := aJm (aFn m) (fun _ => 4 ^ m - 1) y.f4 fun z hz => by
      have := aJc m z (h2 z hz)
      omega
    have hs := aIg (fun _ : S39 => 4 ^ m - 1) (4 ^ m - 1) y.f4 (fun _ _ => Nat.le_refl _)
    have hm : y.f4.length * (4 ^ m - 1) ≤ 2 * (4 ^ m - 1) := Nat.mul_le_mul_right _ h1
    have hp : 1 ≤ 4 ^ m := Nat.one_le_pow _ _ (by omega)
    have hi : (if y.f0 = 0 then [y.f1] else ([] : List Int)).length ≤ 1 := by split <;> simp
    rw [List.length_append, Nat.pow_succ]
    omega
theorem aKs : ∀ (m : Nat) (y : S39) (d : Int) (s : List Int), m ≤ 41 → 0 < m → d = 41 - m → nE m y → s.length + (aFn m y).length ≤ 1073741824 → Ev (fun k => dM.f k y.f0 y.f1 y.f2.f0 y.f2.f1 y.f2.f2 y.f3 y.f4 d s) (s ++ aFn m y)
  | 0, _, _, _, _, h0, _, _, _ => absurd h0 (by omega)
  | m + 1, y, d, s, hm, _, hd, hn, hs => by
    obtain ⟨n1, n2, n3⟩ := hn
    have low : ∀ s1 : List Int, s1.length + (y.f4.flatMap (aFn m)).length ≤ 1073741824 → Ev (fun k => dM.j0 k d s1 y.f0 y.f1 y.f2.f0 y.f2.f1 y.f2.f2 y.f3 y.f4) (s1 ++ y.f4.flatMap (aFn m)) := by
      intro s1 hs1
      by_cases hd4 : d < 40
      · refine Ev.step (fun k => rfl) (aAb hd4 ?_)
        have loop : ∀ (q i : Nat) (s2 : List Int), y.f4.length - i = q → i ≤ y.f4.length → s2.length + ((y.f4.drop i).flatMap (aFn m)).length ≤ 1073741824 → Ev (fun k => dM.l0 k d s2 y.f4 (y.f4.length : Int) (i : Int)) (s2 ++ (y.f4.drop i).flatMap (aFn m)) := by
          intro q
          induction q with
          | zero =>
            intro i s2 h1 h2 h3
            rw [List.drop_eq_nil_of_le (by omega)]
            exact Ev.step (fun k => rfl) (aAd (by omega) (aAf fun _ => by simp))
          | succ q ih =>
            intro i s2 h1 h2 h3
            have hi : i < y.f4.length := by omega
            have hz := aCd z39 hi
            rw [aBb z39 hi, List.flatMap_cons] at h3 ⊢
            rw [List.length_append] at h3
            have hk := aKs m (y.f4.getD i z39) (wrap64 (d + 1)) s2 (by omega) (by omega) (by rw [aDl (by omega) (by omega)]; omega) (n3 _ hz) (by omega)
            have e : aAh y.f4 (i : Int) = y.f4.getD i z39 := by unfold aAh; rw [Int.toNat_natCast]
            refine Ev.step (fun k => rfl) (aAb (by omega) (aAb (by omega) (aAb (by omega) ?_)))
            rw [e, aBk hi (by omega)]
            refine Ev.bind hk (aAy (ih (i + 1) _ (by omega) (by omega) (by rw [List.length_append]; omega)) ?_)
            rw [List.append_assoc]
        have h := loop y.f4.length 0 s1 (by omega) (by omega) (by rw [List.drop_zero]; exact hs1)
        rw [List.drop_zero] at h
        exact h
      · have hm0 : m = 0 := by omega
        subst hm0
        refine Ev.step (fun k => rfl) (aAd hd4 (aAf fun _ => ?_))
        have e : y.f4.flatMap (aFn 0) = [] := by
          induction y.f4 with
          | nil => rfl
          | cons a l ih => rw [List.flatMap_cons, ih]; rfl
        rw [e, List.append_nil]
    unfold aFn at hs ⊢
    by_cases h0 : y.f0 = 0
    · rw [if_pos h0] at hs ⊢
      rw [List.length_append, List.length_singleton] at hs
      refine Ev.step (fun k => rfl) (aAb h0 (aAb ⟨by omega, n1⟩ (aAy (low (s ++ [y.f1]) (by rw [List.length_append, List.length_singleton]; omega)) ?_)))
      rw [List.append_assoc]
    · rw [if_neg h0] at hs ⊢
      rw [List.nil_append] at hs ⊢
      exact Ev.step (fun k => rfl) (aAd h0 (low s hs))
def aMe (x : Int) : List Int → List Int
  | [] => [x]
  | a :: l => if a < x then a :: aMe x l else if a = x then a :: l else x :: a :: l
theorem aLj (x : Int) : ∀ l, (aMe x l).length ≤ l.length + 1
  | [] => Nat.le_refl _
  | a :: l => by
    unfold aMe
    have := aLj x l
    split
    · simp only [List.length_cons]; omega
    · split <;> simp only [List.length_cons] <;> omega
theorem aLf (x z : Int) : ∀ l, z ∈ aMe x l ↔ z = x ∨ z ∈ l
  | [] => by unfold aMe; simp
  | a :: l => by
    have ih := aLf x z l
    unfold aMe
    split
    · rw [List.mem_cons, ih, List.mem_cons]
      constructor
      · rintro (h | h | h)
        · exact Or.inr (Or.inl h)
        · exact Or.inl h
        · exact Or.inr (Or.inr h)
      · rintro (h | h | h)
        · exact Or.inr (Or.inl h)
        · exact Or.inl h
        · exact Or.inr (Or.inr h)
    · split
      · rename_i h
        subst h
        simp only [List.mem_cons]
        constructor
        · exact fun h => Or.inr h
        · rintro (h | h)
          · exact Or.inl h
          · exact h
      · simp only [List.mem_cons]
theorem aJr (x : Int) : ∀ l, l.Pairwise (· < ·) → (aMe x l).Pairwise (· < ·)
  | [], _ => List.pairwise_singleton _ _
  | a :: l, h => by
    have hp := List.pairwise_cons.1 h
    unfold aMe
    split
    · rename_i hl
      refine List.pairwise_cons.2 ⟨fun z hz => ?_, aJr x l hp.2⟩
      rcases (aLf x z l).1 hz with rfl | hz
      · exact hl
      · exact hp.1 z hz
    · split
      · exact h
      · rename_i h1 h2
        refine List.pairwise_cons.2 ⟨fun z hz => ?_, h⟩
        rcases List.mem_cons.1 hz with rfl | hz
        · omega
        · have := hp.1 z hz
          omega
theorem aJb (x : Int) : ∀ (i : Nat) (l : List Int), i ≤ l.length → (∀ j, j < i → l.getD j 0 < x) → aMe x l = l.take i ++ aMe x (l.drop i)
  | 0, _, _, _ => rfl
  | i + 1, [], h, _ => absurd h (by simp)
  | i + 1, a :: l, h, hj => by
    have h0 : a < x := hj 0 (by omega)
    show aMe x (a :: l) = a :: (l.take i ++ aMe x (l.drop i))
    rw [← aJb x i l (by simpa using h) fun j hj' => hj (j + 1) (by omega)]
    show (if a < x then _ else _) = _
    rw [if_pos h0]
theorem aNd (l : List Int) (x : Int) (hl : l.length ≤ 1000000000) : Ev (fun k => dL.f k l x) (aMe x l) := by
  have loop : ∀ (q i : Nat), l.length - i = q → i ≤ l.length → (∀ j, j < i → l.getD j 0 < x) → Ev (fun k => dL.l0 k l x (i : Int)) (aMe x l) := by
    intro q
    induction q with
    | zero =>
      intro i h1 h2 hj
      have hi : i = l.length := by omega
      subst hi
      rw [aJb x l.length l (Nat.le_refl _) hj, List.drop_length]
      refine Ev.step (fun k => rfl) (aAd (by omega) (aBr rfl (aAb (by omega) (aAb (by omega) (aAb (by simp; omega) (aBr rfl (aBr rfl (aAb (by simp; omega) (aBr rfl (aAb (by simp; omega) (aAf fun _ => ?_)))))))))))
      rw [Int.toNat_natCast, List.drop_length, List.append_nil, List.nil_append]
      rfl
    | succ q ih =>
      intro i h1 h2 hj
      have hi : i < l.length := by omega
      have e : rd l (i : Int) = l.getD i 0 := by unfold rd; rw [Int.toNat_natCast]
      by_cases hx : rd l (i : Int) < x
      · refine Ev.step (fun k => rfl) (aAb (by omega) (aAb (by omega) (aAb hx ?_)))
        rw [aBk hi (by omega)]
        refine ih (i + 1) (by omega) (by omega) fun j hj' => ?_
        rcases Nat.lt_or_ge j i with h | h
        · exact hj j h
        · obtain rfl : j = i := by omega
          rw [← e]; exact hx
      · rw [aJb x i l (by omega) hj, aBb 0 hi]
        rw [e] at hx
        by_cases hq : rd l (i : Int) = x
        · refine Ev.step (fun k => rfl) (aAb (by omega) (aAb (by omega) (aAd (by rw [e]; exact hx) (aAb hq (aAf fun _ => ?_)))))
          rw [e] at hq
          show some l = some (l.take i ++ (if l.getD i 0 < x then _ else if l.getD i 0 = x then l.getD i 0 :: l.drop (i + 1) else _))
          rw [if_neg hx, if_pos hq, ← aBb 0 hi, List.take_append_drop]
        · refine Ev.step (fun k => rfl) (aAb (by omega) (aAb (by omega) (aAd (by rw [e]; exact hx) (aAd hq (aBr rfl (aAb (by omega) (aAb (by simp; omega) (aBr rfl (aBr rfl (aAb (by simp; omega) (aBr rfl (aAb (by simp; omega) (aAf fun _ => ?_)))))))))))))
          rw [e] at hq
          show _ = some (l.take i ++ (if l.getD i 0 < x then _ else if l.getD i 0 = x then _ else x :: l.getD i 0 :: l.drop (i + 1)))
          rw [if_neg hx, if_neg hq, ← aBb 0 hi, Int.toNat_natCast, List.nil_append, List.append_assoc]
          rfl
  exact loop l.length 0 (by omega) (by omega) fun j hj => absurd hj (by omega)
def aDs (s : List Int) (more : List Int) : List Int := more.foldl (fun s x => aMe x s) s
def aFf : Nat → S39 → List Int
  | 0, _ => []
  | m + 1, y => (y.f4.map (aFf m)).foldl aDs (if y.f0 = 0 then [y.f1] else [])
theorem aIi : ∀ (more s : List Int), s.Pairwise (· < ·) → (aDs s more).Pairwise (· < ·) ∧ (∀ z, z ∈ aDs s more ↔ z ∈ s ∨ z ∈ more) ∧ (aDs s more).length ≤ s.length + more.length
  | [], s, h => ⟨h, fun z => by simp [aDs], Nat.le_refl _⟩
  | x :: more, s, h => by
    obtain ⟨h1, h2, h3⟩ := aIi more (aMe x s) (aJr x s h)
    refine ⟨h1, fun z => ?_, ?_⟩
    · show z ∈ aDs (aMe x s) more ↔ _
      rw [h2 z, aLf, List.mem_cons]
      constructor
      · rintro ((h | h) | h)
        · exact Or.inr (Or.inl h)
        · exact Or.inl h
        · exact Or.inr (Or.inr h)
      · rintro (h | h | h)
        · exact Or.inl (Or.inr h)
        · exact Or.inl (Or.inl h)
        · exact Or.inr h
    · have := aLj x s
      show (aDs (aMe x s) more).length ≤ _
      rw [List.length_cons]
      omega
theorem aHj : ∀ (L : List (List Int)) (s : List Int), s.Pairwise (· < ·) → (L.foldl aDs s).Pairwise (· < ·) ∧ (∀ z, z ∈ L.foldl aDs s ↔ z ∈ s ∨ ∃ l ∈ L, z ∈ l) ∧ (L.foldl aDs s).length ≤ s.length + (L.map List.length).sum
  | [], s, h => ⟨h, fun z => by simp, Nat.le_refl _⟩
  | l :: L, s, h => by
    obtain ⟨a1, a2, a3⟩ := aIi l s h
    obtain ⟨h1, h2, h3⟩ := aHj L (aDs s l) a1
    refine ⟨h1, fun z => ?_, ?_⟩
    · show z ∈ L.foldl aDs (aDs s l) ↔ _
      rw [h2 z, a2 z]
      constructor
      · rintro ((h | h) | ⟨q, hq, hz⟩)
        · exact Or.inl h
        · exact Or.inr ⟨l, by simp, h⟩
        · exact Or.inr ⟨q, by simp [hq], hz⟩
      · rintro (h | ⟨q, hq, hz⟩)
        · exact Or.inl (Or.inl h)
        · rcases List.mem_cons.1 hq with rfl | hq
          · exact Or.inl (Or.inr hz)
          · exact Or.inr ⟨q, hq, hz⟩
    · show (L.foldl aDs (aDs s l)).length ≤ _
      rw [List.map_cons, List.sum_cons]
      omega
theorem aTj (y : S39) : (if y.f0 = 0 then [y.f1] else ([] : List Int)).Pairwise (· < ·) := by
  split
  · exact List.pairwise_singleton _ _
  · exact List.Pairwise.nil
theorem aDz : ∀ (m : Nat) (y : S39), (aFf m y).Pairwise (· < ·) ∧ (∀ z, z ∈ aFf m y ↔ z ∈ aFn m y) ∧ (aFf m y).length ≤ ndE m y
  | 0, _ => ⟨List.Pairwise.nil, fun z => Iff.rfl, Nat.le_refl _⟩
  | m + 1, y => by
    obtain ⟨h1, h2, h3⟩ := aHj (y.f4.map (aFf m)) _ (aTj y)
    refine ⟨h1, fun z => ?_, ?_⟩
    · unfold aFf aFn
      rw [h2 z, List.mem_append, List.mem_flatMap]
      constructor
      · rintro (h | ⟨l, hl, hz⟩)
        · exact Or.inl h
        · obtain ⟨q, hq, rfl⟩ := List.mem_map.1 hl
          exact Or.inr ⟨q, hq, ((aDz m q).2.1 z).1 hz⟩
      · rintro (h | ⟨q, hq, hz⟩)
        · exact Or.inl h
        · exact Or.inr ⟨aFf m q, List.mem_map.2 ⟨q, hq, rfl⟩, ((aDz m q).2.1 z).2 hz⟩
    · unfold ndE
      have hs : (((y.f4.map (aFf m)).map List.length).sum) ≤ (y.f4.map (ndE m)).sum := by
        rw [List.map_map]
        have : ∀ l : List S39, (l.map (List.length ∘ aFf m)).sum ≤ (l.map (ndE m)).sum := by
          intro l
          induction l with
          | nil => exact Nat.le_refl _
          | cons a l ih =>
            rw [List.map_cons, List.sum_cons, List.map_cons, List.sum_cons]
            have := (aDz m a).2.2
            show (aFf m a).length + _ ≤ _
            omega
        exact this _
      have hi : (if y.f0 = 0 then [y.f1] else ([] : List Int)).length ≤ 1 := by split <;> simp
      unfold aFf
      omega
theorem aNl : ∀ (n : Nat) (y : S39), hE n y → nE n y → ndE n y ≤ 100000000 → Ev (fun k => bQ.f k y.f0 y.f1 y.f2.f0 y.f2.f1 y.f2.f2 y.f3 y.f4) (aFf n y)
  | 0, _, h, _, _ => h.elim
  | n + 1, y, hh, hn, hw => by
    obtain ⟨_, n2, n3⟩ := hn
    unfold ndE at hw
    have kid : ∀ z ∈ y.f4, Ev (fun k => bQ.f k z.f0 z.f1 z.f2.f0 z.f2.f1 z.f2.f2 z.f3 z.f4) (aFf n z) ∧ (aFf n z).length ≤ 100000000 := fun z hz => by
      have h1 := aDe (ndE n) hz
      have h2 := (aDz n z).2.2
      exact ⟨aNl n z (hh z hz) (n3 z hz) (by omega), by omega⟩
    have outer : ∀ (q i : Nat) (s : List Int), y.f4.length - i = q → i ≤ y.f4.length → s.Pairwise (· < ·) → s.length + ((y.f4.drop i).map (ndE n)).sum ≤ 100000001 → Ev (fun k => bQ.l0 k s (i : Int) y.f0 y.f1 y.f2.f0 y.f2.f1 y.f2.f2 y.f3 y.f4) (((y.f4.drop i).map (aFf n)).foldl aDs s) := by
      intro q
      induction q with
      | zero =>
        intro i s h1 h2 h3 h4
        rw [List.drop_eq_nil_of_le (by omega)]
        exact Ev.step (fun k => rfl) (aAd (by omega) (aAf fun _ => rfl))
      | succ q ih =>
        intro i s h1 h2 h3 h4
        have hi : i < y.f4.length := by omega
        have hz := aCd z39 hi
        obtain ⟨kz, lz⟩ := kid _ hz
        have e : aAh y.f4 (i : Int) = y.f4.getD i z39 := by unfold aAh; rw [Int.toNat_natCast]
        rw [aBb z39 hi, List.map_cons, List.sum_cons] at h4
        rw [aBb z39 hi, List.map_cons]
        have nz := (aDz n (y.f4.getD i z39)).2.2
        generalize hM : aFf n (y.f4.getD i z39) = M at *
        have inner : ∀ (p j : Nat) (s1 : List Int), M.length - j = p → j ≤ M.length → s1.Pairwise (· < ·) → s1.length + (M.length - j) + ((y.f4.drop (i + 1)).map (ndE n)).sum ≤ 100000001 → Ev (fun k => bQ.l1 k s1 (i : Int) M (j : Int) y.f0 y.f1 y.f2.f0 y.f2.f1 y.f2.f2 y.f3 y.f4) (((y.f4.drop (i + 1)).map (aFf n)).foldl aDs (aDs s1 (M.drop j))) := by
          intro p
          induction p with
          | zero =>
            intro j s1 g1 g2 g3 g4
            rw [List.drop_eq_nil_of_le (show M.length ≤ j by omega)]
            refine Ev.step (fun k => rfl) (aAd (by omega) ?_)
            rw [aBk hi (by omega)]
            exact ih (i + 1) s1 (by omega) (by omega) g3 (by omega)
          | succ p ihp =>
            intro j s1 g1 g2 g3 g4
            have hj : j < M.length := by omega
            have e2 : rd M (j : Int) = M.getD j 0 := by unfold rd; rw [Int.toNat_natCast]
            rw [aBb 0 hj]
            refine Ev.step (fun k => rfl) (aAb (by omega) (aAb (by omega) ?_))
            rw [e2, aBk hj (by omega)]
            have hl := aLj (M.getD j 0) s1
            exact Ev.bind (aNd s1 _ (by omega)) (ihp (j + 1) _ (by omega) (by omega) (aJr _ _ g3) (by omega))
        refine Ev.step (fun k => rfl) (aAb (by omega) (aAb (by omega) ?_))
        rw [e]
        refine Ev.bind kz ?_
        have h := inner M.length 0 s (by omega) (by omega) h3 (by omega)
        rw [List.drop_zero] at h
        exact h
    have go : ∀ s : List Int, s.Pairwise (· < ·) → s.length ≤ 1 → Ev (fun k => bQ.j0 k s y.f0 y.f1 y.f2.f0 y.f2.f1 y.f2.f2 y.f3 y.f4) ((y.f4.map (aFf n)).foldl aDs s) := by
      intro s hs hl
      have h := outer y.f4.length 0 s (by omega) (by omega) hs (by rw [List.drop_zero]; omega)
      rw [List.drop_zero] at h
      exact Ev.step (fun k => rfl) h
    unfold aFf
    by_cases h0 : y.f0 = 0
    · rw [if_pos h0]
      exact Ev.step (fun k => rfl) (aBr rfl (aAb h0 (Ev.bind (aNd [] y.f1 (by simp)) (go [y.f1] (List.pairwise_singleton _ _) (by simp)))))
    · rw [if_neg h0]
      exact Ev.step (fun k => rfl) (aBr rfl (aAd h0 (go [] List.Pairwise.nil (by simp))))
def ovB (y : S39) (w : Int) : Bool := okE 13 y && (aFn 13 y).all (fun n => decide (n < w))
def gdE (n : Nat) (y : S39) : Prop := 13 ≤ n ∧ hE n y ∧ nE n y ∧ nE 41 y ∧ ndE n y ≤ 100000000 ∧ aIb 13 y
theorem aIv (n : Nat) (y : S39) (h : gdE n y) (w : Int) : Ev (fun k => iI.f k y.f0 y.f1 y.f2.f0 y.f2.f1 y.f2.f2 y.f3 y.f4 w) (ovB y w) := by
  obtain ⟨_, _, _, h4, _, h6⟩ := h
  refine Ev.congr (fun k => rfl) (Ev.bind (a0K y h6) ?_)
  unfold ovB
  by_cases hok : okE 13 y = true
  · have hc := aLl 13 41 y (by omega) hok
    have hl := aJc 13 y hok
    refine aAb hok (Ev.bind (aKs 41 y 0 [] (by omega) (by omega) (by omega) h4 (by rw [hc]; simp; omega)) (aAb (by rw [List.nil_append, hc]; omega) (aAf fun _ => ?_)))
    rw [List.nil_append, hc, hok, Bool.true_and]
  · exact aAd hok (aAf fun _ => by rw [Bool.eq_false_iff.2 hok]; rfl)
theorem aQo {l : List Int} (h : l.Pairwise (· < ·)) (h0 : 0 < l.length) (w : Int) : (l.getD (l.length - 1) 0 < w) ↔ ∀ z ∈ l, z < w := by
  have hm : l.getD (l.length - 1) 0 ∈ l := aCd 0 (by omega)
  refine ⟨fun hw z hz => ?_, fun hw => hw _ hm⟩
  obtain ⟨j, hj, rfl⟩ := List.getElem_of_mem hz
  rcases Nat.lt_or_ge j (l.length - 1) with hlt | hge
  · have := List.pairwise_iff_getElem.1 h j (l.length - 1) hj (by omega) hlt
    rw [List.getD_eq_getElem?_getD, List.getElem?_eq_getElem (by omega : l.length - 1 < l.length)] at hw
    have hw : l[l.length - 1] < w := hw
    omega
  · obtain rfl : j = l.length - 1 := by omega
    rw [List.getD_eq_getElem?_getD, List.getElem?_eq_getElem hj] at hw
    exact hw
theorem aGv (n : Nat) (y : S39) (h : gdE n y) (w : Int) : Ev (fun k => jM.f k y.f0 y.f1 y.f2.f0 y.f2.f1 y.f2.f2 y.f3 y.f4 w) (ovB y w) := by
  obtain ⟨h1, h2, h3, _, h5, h6⟩ := h
  obtain ⟨p1, p2, p3⟩ := aDz n y
  refine Ev.congr (fun k => rfl) (Ev.bind (aNl n y h2 h3 h5) (Ev.bind (a0G y h6) ?_))
  unfold ovB
  by_cases hok : okE 13 y = true
  · rw [hok, Bool.true_and]
    have hc := aLl 13 n y h1 hok
    rw [hc] at p2
    generalize aFf n y = C at *
    refine aAb rfl ?_
    by_cases h0 : (C.length : Int) = 0
    · refine aAb h0 (aAf fun _ => ?_)
      have hC : C = [] := List.length_eq_zero_iff.1 (by omega)
      have e : (aFn 13 y).all (fun n => decide (n < w)) = true := by
        rw [List.all_eq_true]
        intro z hz
        have := (p2 z).2 hz
        rw [hC] at this
        cases this
      rw [e]
    · have w1 : wrap64 ((C.length : Int) - 1) = ((C.length - 1 : Nat) : Int) := aFg (by omega) (by omega)
      refine aAd h0 (aAb (by rw [w1]; omega) (aAb (by rw [w1]; omega) (aAf fun _ => ?_)))
      rw [w1]
      have e : rd C ((C.length - 1 : Nat) : Int) = C.getD (C.length - 1) 0 := by unfold rd; rw [Int.toNat_natCast]
      rw [e]
      have hl := aQo p1 (by omega) w
      congr 1
      rw [Bool.eq_iff_iff, decide_eq_true_eq, hl, List.all_eq_true]
      exact ⟨fun h z hz => decide_eq_true (h z ((p2 z).2 hz)), fun h z hz => of_decide_eq_true (h z ((p2 z).1 hz))⟩
  · rw [Bool.eq_false_iff.2 hok]
    exact aAd (by simp) (aAf fun _ => rfl)
theorem aMp (n : Nat) (l : List S39) (hl : l.length ≤ 1048576) (h : ∀ y ∈ l, gdE n y) (w : Int) : Ev (fun k => iP.f k l w) (l.all (fun y => ovB y w)) := by
  have loop : ∀ (q i : Nat), l.length - i = q → i ≤ l.length → Ev (fun k => iP.l0 k l w (i : Int)) ((l.drop i).all (fun y => ovB y w)) := by
    intro q
    induction q with
    | zero =>
      intro i h1 h2
      rw [List.drop_eq_nil_of_le (by omega)]
      exact Ev.step (fun k => rfl) (aAd (by omega) (aAf fun _ => rfl))
    | succ q ih =>
      intro i h1 h2
      have hi : i < l.length := by omega
      have e : aAh l (i : Int) = l.getD i z39 := by unfold aAh; rw [Int.toNat_natCast]
      rw [aBb z39 hi, List.all_cons]
      refine Ev.step (fun k => rfl) (aAb (by omega) (aAb (by omega) ?_))
      rw [e, aBk hi (by omega)]
      refine Ev.bind (aGv n _ (h _ (aCd z39 hi)) w) ?_
      cases hb : ovB (l.getD i z39) w with
      | true => rw [Bool.true_and]; exact aAb rfl (ih (i + 1) (by omega) (by omega))
      | false => exact aAd (by simp) (aAf fun _ => rfl)
  have h := loop l.length 0 (by omega) (by omega)
  rw [List.drop_zero] at h
  exact h
theorem aKy (n : Nat) (l : List S39) (h : ∀ y ∈ l, gdE n y) (w : Int) : Ev (fun k => aGs k l w) (l.all (fun y => ovB y w)) :=
  aIr fun y hy => aIv n y (h y hy) w
def aFs (e : S39) : Bool := (e.f0 == 0) && ((e.f1 == 0) && (aDk e.f2.f0 e.f2.f1 e.f2.f2 && ((e.f3.toList == ([] : List UInt8)) && decide (e.f4.length = 0))))
def aHg (a : Int) : Int := if 0 ≤ a ∧ a ≤ 6 then rd [0, 1, 1, 2, 2, 1, 1] a else -1
def aIm (p : S42) : Bool := (p.f0 == 2 || (p.f0 == 6 || decide (p.f3.length = 0))) && ((p.f0 == 6 || p.f4 == 0) && ((p.f5.length : Int) == aHg p.f0))
def aGp (p : S42) : Bool := (p.f0 == 0 || (p.f1.toList == ([] : List UInt8))) && ((p.f0 == 1 || (p.f0 == 3 || aFs p.f2)) && aIm p)
theorem aPt (e : S39) : jP.f e.f0 e.f1 e.f2.f0 e.f2.f1 e.f2.f2 e.f3 e.f4 = some (aFs e) := by
  unfold jP.f aFs
  by_cases h0 : e.f0 = 0
  · by_cases h1 : e.f1 = 0
    · rw [if_pos h0, if_pos h1]
      rw [show (e.f0 == 0) = true from beq_iff_eq.2 h0, show (e.f1 == 0) = true from beq_iff_eq.2 h1, Bool.true_and, Bool.true_and]
      show (if aDk e.f2.f0 e.f2.f1 e.f2.f2 = true then _ else _) = _
      cases aDk e.f2.f0 e.f2.f1 e.f2.f2 with
      | false => rfl
      | true =>
        rw [if_pos rfl, Bool.true_and]
        by_cases h3 : e.f3.toList = ([] : List UInt8)
        · rw [if_pos h3, show (e.f3.toList == ([] : List UInt8)) = true from beq_iff_eq.2 h3, Bool.true_and]
          congr 1
          rw [Bool.eq_iff_iff, beq_iff_eq, decide_eq_true_eq]
          omega
        · rw [if_neg h3, show (e.f3.toList == ([] : List UInt8)) = false from beq_eq_false_iff_ne.2 h3]; rfl
    · rw [if_pos h0, if_neg h1, show (e.f1 == 0) = false from beq_eq_false_iff_ne.2 h1]; simp
  · rw [if_neg h0, show (e.f0 == 0) = false from beq_eq_false_iff_ne.2 h0]; rfl
theorem aQg (a : Int) : iT.f a = some (aHg a) := by
  unfold iT.f aHg
  rw [aIp, Option.bind_some]
  by_cases h : 0 ≤ a ∧ a ≤ 6
  · rw [if_pos (decide_eq_true h), Option.bind_some, if_pos h.1, if_pos (by simp; omega), if_pos h]
  · rw [if_neg (by simpa using h), if_neg h]
theorem aOd (x : Bool) (p : S42) : Ev (fun k => bF.j0 k x p.f0 p.f1 p.f2.f0 p.f2.f1 p.f2.f2.f0 p.f2.f2.f1 p.f2.f2.f2 p.f2.f3 p.f2.f4 p.f3 p.f4 p.f5) (!x && aIm p) := by
  have hj := fun (x : Bool) (k : Nat) => (show bF.j0 (k + 1) x p.f0 p.f1 p.f2.f0 p.f2.f1 p.f2.f2.f0 p.f2.f2.f1 p.f2.f2.f2 p.f2.f3 p.f2.f4 p.f3 p.f4 p.f5 = ite (x = true) (some false) _ from rfl)
  cases x with
  | true => exact Ev.step (fun k => (hj true k).trans (if_pos rfl)) (aAf fun _ => rfl)
  | false =>
    have fin : ((iT.f p.f0).bind fun t => some ((p.f5.length : Int) == t)) = some ((p.f5.length : Int) == aHg p.f0) := by rw [aQg, Option.bind_some]
    refine Ev.step (fun k => (hj false k).trans (if_neg Bool.false_ne_true)) ?_
    rw [Bool.not_false, Bool.true_and]
    unfold aIm
    by_cases h2 : p.f0 = 2
    · have e6 : ¬ p.f0 = 6 := by omega
      rw [show (p.f0 == 2) = true from beq_iff_eq.2 h2, show (p.f0 == 6) = false from beq_eq_false_iff_ne.2 e6, Bool.true_or, Bool.true_and, Bool.false_or]
      refine aAb h2 (aAd e6 ?_)
      by_cases h4 : p.f4 = 0
      · rw [show (p.f4 == 0) = true from beq_iff_eq.2 h4, Bool.true_and]
        exact aAb h4 (aAf fun _ => fin)
      · rw [show (p.f4 == 0) = false from beq_eq_false_iff_ne.2 h4, Bool.false_and]
        exact aAd h4 (aAf fun _ => rfl)
    · rw [show (p.f0 == 2) = false from beq_eq_false_iff_ne.2 h2, Bool.false_or]
      refine aAd h2 ?_
      by_cases h6 : p.f0 = 6
      · rw [show (p.f0 == 6) = true from beq_iff_eq.2 h6, Bool.true_or, Bool.true_or, Bool.true_and, Bool.true_and]
        exact aAb h6 (aAf fun _ => fin)
      · rw [show (p.f0 == 6) = false from beq_eq_false_iff_ne.2 h6, Bool.false_or, Bool.false_or]
        refine aAd h6 ?_
        by_cases h3 : p.f3.length = 0
        · rw [decide_eq_true h3, Bool.true_and]
          refine aAd (by omega) ?_
          by_cases h4 : p.f4 = 0
          · rw [show (p.f4 == 0) = true from beq_iff_eq.2 h4, Bool.true_and]
            exact aAb h4 (aAf fun _ => fin)
          · rw [show (p.f4 == 0) = false from beq_eq_false_iff_ne.2 h4, Bool.false_and]
            exact aAd h4 (aAf fun _ => rfl)
        · rw [decide_eq_false h3, Bool.false_and]
          exact aAb (by omega) (aAf fun _ => rfl)
theorem aUy (p : S42) : Ev (fun k => bF.f k p.f0 p.f1 p.f2.f0 p.f2.f1 p.f2.f2.f0 p.f2.f2.f1 p.f2.f2.f2 p.f2.f3 p.f2.f4 p.f3 p.f4 p.f5) (aGp p) := by
  have jf := aOd false p
  have jt := aOd true p
  rw [Bool.not_false, Bool.true_and] at jf
  rw [Bool.not_true, Bool.false_and] at jt
  have jn := aOd (!(aFs p.f2)) p
  rw [Bool.not_not] at jn
  have hn := aPt p.f2
  have mid : Ev (fun k => if p.f0 = 1 then bF.j0 k false p.f0 p.f1 p.f2.f0 p.f2.f1 p.f2.f2.f0 p.f2.f2.f1 p.f2.f2.f2 p.f2.f3 p.f2.f4 p.f3 p.f4 p.f5 else (if p.f0 = 3 then bF.j0 k false p.f0 p.f1 p.f2.f0 p.f2.f1 p.f2.f2.f0 p.f2.f2.f1 p.f2.f2.f2 p.f2.f3 p.f2.f4 p.f3 p.f4 p.f5 else ((jP.f p.f2.f0 p.f2.f1 p.f2.f2.f0 p.f2.f2.f1 p.f2.f2.f2 p.f2.f3 p.f2.f4).bind fun t => bF.j0 k (!t) p.f0 p.f1 p.f2.f0 p.f2.f1 p.f2.f2.f0 p.f2.f2.f1 p.f2.f2.f2 p.f2.f3 p.f2.f4 p.f3 p.f4 p.f5))) ((p.f0 == 1 || (p.f0 == 3 || aFs p.f2)) && aIm p) := by
    by_cases h1 : p.f0 = 1
    · rw [show (p.f0 == 1) = true from beq_iff_eq.2 h1, Bool.true_or, Bool.true_and]
      exact aAb h1 jf
    · rw [show (p.f0 == 1) = false from beq_eq_false_iff_ne.2 h1, Bool.false_or]
      refine aAd h1 ?_
      by_cases h3 : p.f0 = 3
      · rw [show (p.f0 == 3) = true from beq_iff_eq.2 h3, Bool.true_or, Bool.true_and]
        exact aAb h3 jf
      · rw [show (p.f0 == 3) = false from beq_eq_false_iff_ne.2 h3, Bool.false_or]
        exact aAd h3 (aBr hn jn)
  unfold aGp
  by_cases h0 : p.f0 = 0
  · rw [show (p.f0 == 0) = true from beq_iff_eq.2 h0, Bool.true_or, Bool.true_and]
    exact Ev.congr (fun k => if_pos h0) mid
  · rw [show (p.f0 == 0) = false from beq_eq_false_iff_ne.2 h0, Bool.false_or]
    by_cases hn : p.f1.toList = ([] : List UInt8)
    · rw [show (p.f1.toList == ([] : List UInt8)) = true from beq_iff_eq.2 hn, Bool.true_and]
      exact Ev.congr (fun k => (if_neg h0).trans (if_pos hn)) mid
    · rw [show (p.f1.toList == ([] : List UInt8)) = false from beq_eq_false_iff_ne.2 hn, Bool.false_and]
      exact Ev.congr (fun k => (if_neg h0).trans (if_neg hn)) jt
def aVi (p : S42) (a b : Int) : Int × Bool :=
  if p.f0 = 1 then (a, ovB p.f2 a)
  else if p.f0 = 2 then ((p.f3.length : Int), decide ((p.f3.length : Int) > 0) && p.f3.all (fun y => ovB y a))
  else if p.f0 = 3 then (wrap64 (a + b), ovB p.f2 (wrap64 (a + b)))
  else if p.f0 = 4 then (a, a == b)
  else if p.f0 = 6 then (wrap64 (wrap64 (p.f4 + 1) + (p.f3.length : Int)), decide (0 ≤ p.f4 ∧ p.f4 ≤ a) && (decide ((p.f3.length : Int) ≤ 1) && p.f3.all (fun y => ovB y a)))
  else (a, true)
def aPj (r : Int × Bool) : Int := if r.2 = true then (if r.1 > 12 then -1 else r.1) else -1
def aXc (db : List S68) (p : S42) : Int × Bool := ((aSq (aEi p.f1 db)).1, (aSq (aEi p.f1 db)).2.2)
def wid (db : List S68) : Nat → S42 → Int
  | 0, _ => -1
  | m + 1, p => if aGp p = true then (if (p.f5.map (wid db m)).any (fun v => decide (v < 0)) = true then -1 else aPj (if p.f0 = 0 then aXc db p else aVi p (rd (p.f5.map (wid db m)) 0) (rd (p.f5.map (wid db m)) 1))) else -1
def gdP (n : Nat) : Nat → S42 → Prop
  | 0, _ => True
  | m + 1, p => gdE n p.f2 ∧ p.f3.length ≤ 1048576 ∧ (∀ y ∈ p.f3, gdE n y) ∧ p.f5.length ≤ 1048576 ∧ ∀ y ∈ p.f5, gdP n m y
theorem aLo {r : Int × Bool} (h : r.2 = true) : aPj r = if r.1 > 12 then -1 else r.1 := if_pos h
theorem aJk {r : Int × Bool} (h : ¬ r.2 = true) : aPj r = -1 := if_neg h
theorem aRf (x : Int) : Ev (fun _ => if x > 12 then some (-1) else some x) (if x > 12 then -1 else x) := by
  by_cases h : x > 12
  · exact aAy (aAb h (aAf fun _ => rfl)) (if_pos h).symm
  · exact aAy (aAd h (aAf fun _ => rfl)) (if_neg h).symm
theorem aJf (x : Int) (b : Bool) : Ev (fun _ => if b = true then (if x > 12 then some (-1) else some x) else some (-1)) (aPj (x, b)) := by
  cases b with
  | true => rw [aLo rfl]; exact aAb rfl (aRf x)
  | false => rw [aJk (by simp)]; exact aAd (by simp) (aAf fun _ => rfl)
theorem aPn (n : Nat) (db : List S68) (hdb : db.length ≤ 1048576) (p : S42) (h1 : gdE n p.f2) (h2 : p.f3.length ≤ 1048576) (h3 : ∀ y ∈ p.f3, gdE n y) (d : Int) (x7 : List Int) (hx : x7.length = 2) (i : Int) (hi : ¬ i < (p.f5.length : Int)) :
    Ev (fun k => aN.l0 k db d x7 i p.f0 p.f1 p.f2.f0 p.f2.f1 p.f2.f2.f0 p.f2.f2.f1 p.f2.f2.f2 p.f2.f3 p.f2.f4 p.f3 p.f4 p.f5) (aPj (if p.f0 = 0 then aXc db p else aVi p (rd x7 0) (rd x7 1))) := by
  refine Ev.step (fun k => rfl) (aAd hi (aAb (by omega) ?_))
  unfold aVi
  by_cases k0 : p.f0 = 0
  · rw [if_pos k0]
    exact aAb k0 (Ev.bind (aMv db hdb p.f1) (aJf _ _))
  rw [if_neg k0]
  refine aAd k0 ?_
  by_cases k1 : p.f0 = 1
  · rw [if_pos k1]
    exact aAb k1 (Ev.bind (aGv n _ h1 _) (aJf _ _))
  rw [if_neg k1]
  refine aAd k1 ?_
  by_cases k2 : p.f0 = 2
  · rw [if_pos k2]
    refine aAb k2 ?_
    by_cases hl : (p.f3.length : Int) > 0
    · rw [decide_eq_true hl, Bool.true_and]
      exact aAb hl (Ev.bind (aMp n _ h2 h3 _) (aJf _ _))
    · rw [decide_eq_false hl, Bool.false_and, aJk (by simp)]
      exact aAd hl (aAf fun _ => rfl)
  rw [if_neg k2]
  refine aAd k2 ?_
  by_cases k3 : p.f0 = 3
  · rw [if_pos k3]
    exact aAb k3 (aAb (by omega) (Ev.bind (aGv n _ h1 _) (aJf _ _)))
  rw [if_neg k3]
  refine aAd k3 ?_
  by_cases k4 : p.f0 = 4
  · rw [if_pos k4]
    refine aAb k4 (aAb (by omega) ?_)
    by_cases hab : rd x7 0 = rd x7 1
    · rw [aLo (beq_iff_eq.2 hab)]
      exact aAb hab (aRf _)
    · rw [aJk (by simpa using hab)]
      exact aAd hab (aAf fun _ => rfl)
  rw [if_neg k4]
  refine aAd k4 ?_
  by_cases k6 : p.f0 = 6
  · rw [if_pos k6]
    refine aAb k6 (aBr (aIp _ _ _) ?_)
    by_cases hw : 0 ≤ p.f4 ∧ p.f4 ≤ rd x7 0
    · rw [decide_eq_true hw, Bool.true_and]
      refine aAb rfl ?_
      by_cases hl : (p.f3.length : Int) ≤ 1
      · rw [decide_eq_true hl, Bool.true_and]
        exact aAb hl (Ev.bind (aMp n _ h2 h3 _) (aJf _ _))
      · rw [decide_eq_false hl, Bool.false_and, aJk (by simp)]
        exact aAd hl (aAf fun _ => rfl)
    · rw [decide_eq_false hw, Bool.false_and, aJk (by simp)]
      exact aAd (by simp) (aAf fun _ => rfl)
  · rw [if_neg k6, aLo rfl]
    exact aAd k6 (aRf _)
theorem aTs (a : Int) : aHg a ≤ 2 := by
  unfold aHg
  split
  · rename_i h
    obtain ⟨h0, h6⟩ := h
    have : a = 0 ∨ a = 1 ∨ a = 2 ∨ a = 3 ∨ a = 4 ∨ a = 5 ∨ a = 6 := by omega
    rcases this with rfl | rfl | rfl | rfl | rfl | rfl | rfl <;> decide
  · decide
theorem aJp {p : S42} (h : aGp p = true) : (p.f5.length : Int) = aHg p.f0 := by
  unfold aGp aIm at h
  simp only [Bool.and_eq_true, beq_iff_eq] at h
  exact h.2.2.2.2
theorem aJv (db : List S68) (d : Int) (p : S42) : Ev (fun k => aN.j0 k db d true p.f0 p.f1 p.f2.f0 p.f2.f1 p.f2.f2.f0 p.f2.f2.f1 p.f2.f2.f2 p.f2.f3 p.f2.f4 p.f3 p.f4 p.f5) (-1) := by
  have hj := fun (x : Bool) (k : Nat) => (show aN.j0 (k + 1) db d x p.f0 p.f1 p.f2.f0 p.f2.f1 p.f2.f2.f0 p.f2.f2.f1 p.f2.f2.f2 p.f2.f3 p.f2.f4 p.f3 p.f4 p.f5 = ite (x = true) (some (-1)) _ from rfl)
  exact Ev.step (fun k => (hj true k).trans (if_pos rfl)) (aAf fun _ => rfl)
theorem aQn (db : List S68) (d : Int) (hd : d < 0) (p : S42) : Ev (fun k => aN.f k db p.f0 p.f1 p.f2.f0 p.f2.f1 p.f2.f2.f0 p.f2.f2.f1 p.f2.f2.f2 p.f2.f3 p.f2.f4 p.f3 p.f4 p.f5 d) (-1) := Ev.step (fun k => rfl) (aAb hd (aJv db d p))
theorem aIh (n : Nat) (db : List S68) (hdb : db.length ≤ 1048576) : ∀ (m : Nat) (p : S42), m ≤ 9 → gdP n m p → Ev (fun k => aN.f k db p.f0 p.f1 p.f2.f0 p.f2.f1 p.f2.f2.f0 p.f2.f2.f1 p.f2.f2.f2 p.f2.f3 p.f2.f4 p.f3 p.f4 p.f5 ((m : Int) - 1)) (wid db m p)
  | 0, p, _, _ => by
    have hw : wid db 0 p = -1 := rfl
    rw [hw]
    exact aQn db _ (by omega) p
  | m + 1, p, hm, hg => by
    obtain ⟨g1, g2, g3, g4, g5⟩ := hg
    refine Ev.step (fun k => rfl) (aAd (by omega) (Ev.bind (aUy p) ?_))
    have ed : wrap64 (((m + 1 : Nat) : Int) - 1 - 1) = (m : Int) - 1 := by rw [aDl (by omega) (by omega)]; omega
    have kid : ∀ y ∈ p.f5, Ev (fun k => aN.f k db y.f0 y.f1 y.f2.f0 y.f2.f1 y.f2.f2.f0 y.f2.f2.f1 y.f2.f2.f2 y.f2.f3 y.f2.f4 y.f3 y.f4 y.f5 ((m : Int) - 1)) (wid db m y) := fun y hy => aIh n db hdb m y (by omega) (g5 y hy)
    unfold wid
    by_cases hf : aGp p = true
    case neg =>
      rw [if_neg hf, Bool.eq_false_iff.2 hf]
      exact aJv db _ p
    rw [if_pos hf, hf]
    have hk := aJp hf
    have hk2 := aTs p.f0
    have hj := fun (k : Nat) => (show aN.j0 (k + 1) db (((m + 1 : Nat) : Int) - 1) (!true) p.f0 p.f1 p.f2.f0 p.f2.f1 p.f2.f2.f0 p.f2.f2.f1 p.f2.f2.f2 p.f2.f3 p.f2.f4 p.f3 p.f4 p.f5 = ite ((!true) = true) (some (-1)) (aN.l0 k db (((m + 1 : Nat) : Int) - 1) [0, 0] 0 p.f0 p.f1 p.f2.f0 p.f2.f1 p.f2.f2.f0 p.f2.f2.f1 p.f2.f2.f2 p.f2.f3 p.f2.f4 p.f3 p.f4 p.f5) from rfl)
    refine Ev.step (fun k => (hj k).trans (if_neg Bool.false_ne_true)) ?_
    have fin := fun x7 hx i hi => aPn n db hdb p g1 g2 g3 (((m + 1 : Nat) : Int) - 1) x7 hx i hi
    have step : ∀ (i : Nat) (y : S42) (a b : Int) (r : Int), i < 2 → i < p.f5.length → p.f5.getD i z42 = y → (wid db m y < 0 → r = -1) → (¬ wid db m y < 0 → Ev (fun k => aN.l0 k db (((m + 1 : Nat) : Int) - 1) ([a, b].set i (wid db m y)) ((i + 1 : Nat) : Int) p.f0 p.f1 p.f2.f0 p.f2.f1 p.f2.f2.f0 p.f2.f2.f1 p.f2.f2.f2 p.f2.f3 p.f2.f4 p.f3 p.f4 p.f5) r) → Ev (fun k => aN.l0 k db (((m + 1 : Nat) : Int) - 1) [a, b] (i : Int) p.f0 p.f1 p.f2.f0 p.f2.f1 p.f2.f2.f0 p.f2.f2.f1 p.f2.f2.f2 p.f2.f3 p.f2.f4 p.f3 p.f4 p.f5) r := by
      intro i y a b r hi2 hi hy hneg hpos
      have hmem : y ∈ p.f5 := by rw [← hy]; exact aCd z42 hi
      have e : aAe p.f5 (i : Int) = y := by unfold aAe; rw [Int.toNat_natCast]; exact hy
      refine Ev.step (fun k => rfl) (aAb (by omega) (aAb (by omega) ?_))
      rw [e, ed]
      refine Ev.bind (kid y hmem) (aAb (by simp; omega) (aBr rfl ?_))
      rw [Int.toNat_natCast]
      have er : rd ([a, b].set i (wid db m y)) (i : Int) = wid db m y := by
        unfold rd
        rw [Int.toNat_natCast]
        have : i = 0 ∨ i = 1 := by omega
        rcases this with rfl | rfl <;> rfl
      rw [er]
      by_cases hv : wid db m y < 0
      · rw [hneg hv]
        exact aAb hv (aAf fun _ => rfl)
      · refine aAd hv ?_
        rw [aBk hi (by omega)]
        exact hpos hv
    match hp : p.f5, hk with
    | [], hk =>
      have h := fin [0, 0] rfl 0 (by rw [hp]; simp)
      rw [hp] at h
      exact h
    | [y], hk =>
      have hl : p.f5.length = 1 := by rw [hp]; rfl
      have h := step 0 y 0 0 (if ([y].map (wid db m)).any (fun v => decide (v < 0)) = true then -1 else aPj (if p.f0 = 0 then aXc db p else aVi p (rd ([y].map (wid db m)) 0) (rd ([y].map (wid db m)) 1))) (by omega) (by omega) (by rw [hp]; rfl) (fun hv => if_pos (by simp [hv])) (fun hv => by
        rw [if_neg (by simp; omega)]
        exact fin [wid db m y, 0] rfl 1 (by rw [hl]; simp))
      rw [hp] at h
      exact h
    | [y, z], hk =>
      have hl : p.f5.length = 2 := by rw [hp]; rfl
      have h := step 0 y 0 0 (if ([y, z].map (wid db m)).any (fun v => decide (v < 0)) = true then -1 else aPj (if p.f0 = 0 then aXc db p else aVi p (rd ([y, z].map (wid db m)) 0) (rd ([y, z].map (wid db m)) 1))) (by omega) (by omega) (by rw [hp]; rfl) (fun hv => if_pos (by simp [hv])) (fun hv => by
        refine step 1 z (wid db m y) 0 _ (by omega) (by omega) (by rw [hp]; rfl) (fun hv2 => if_pos (by simp [hv2])) (fun hv2 => ?_)
        rw [if_neg (by simp; omega)]
        exact fin [wid db m y, wid db m z] rfl 2 (by rw [hl]; simp))
      rw [hp] at h
      exact h
    | _ :: _ :: _ :: _, hk => simp only [List.length_cons] at hk; omega
theorem aTr (e : S39) (hl : e.f4.length ≤ 1048576) : Ev (fun k => fA.f k e.f0 e.f1 e.f2.f0 e.f2.f1 e.f2.f2 e.f3 e.f4 0 0 0 0 (⟨#[]⟩ : ByteArray) (⟨#[]⟩ : ByteArray) ([] : List S39)) (aFs e) := by
  have hjx := fun (x : Bool) (k : Nat) => (show bE.j0 (k + 1) 0 x e.f0 e.f1 e.f2.f0 e.f2.f1 e.f2.f2 e.f3 e.f4 0 0 0 0 (⟨#[]⟩ : ByteArray) (⟨#[]⟩ : ByteArray) ([] : List S39) = ite (x = true) (some false) _ from rfl)
  have hjt : Ev (fun k => bE.j0 k 0 true e.f0 e.f1 e.f2.f0 e.f2.f1 e.f2.f2 e.f3 e.f4 0 0 0 0 (⟨#[]⟩ : ByteArray) (⟨#[]⟩ : ByteArray) ([] : List S39)) false := Ev.step (fun k => (hjx true k).trans (if_pos rfl)) (aAf fun _ => rfl)
  have nl : (⟨#[]⟩ : ByteArray).toList = ([] : List UInt8) := aQf []
  have one : Ev (fun k => bE.f k e.f0 e.f1 e.f2.f0 e.f2.f1 e.f2.f2 e.f3 e.f4 0 0 0 0 (⟨#[]⟩ : ByteArray) (⟨#[]⟩ : ByteArray) ([] : List S39) 0) (aFs e) := by
    unfold aFs
    by_cases h0 : e.f0 = 0
    case neg =>
      rw [show (e.f0 == 0) = false from beq_eq_false_iff_ne.2 h0, Bool.false_and]
      exact Ev.step (fun k => rfl) (aAd h0 hjt)
    rw [show (e.f0 == 0) = true from beq_iff_eq.2 h0, Bool.true_and]
    by_cases h1 : e.f1 = 0
    case neg =>
      rw [show (e.f1 == 0) = false from beq_eq_false_iff_ne.2 h1, Bool.false_and]
      exact Ev.step (fun k => rfl) (aAb h0 (aAd h1 hjt))
    rw [show (e.f1 == 0) = true from beq_iff_eq.2 h1, Bool.true_and]
    have hv : (!(e.f2.f0 == 0) || (!(e.f2.f1 == 0) || (!(e.f2.f2.toList == (⟨#[]⟩ : ByteArray).toList)))) = !aDk e.f2.f0 e.f2.f1 e.f2.f2 := by
      rw [nl]
      unfold aDk
      cases (e.f2.f0 == 0) <;> cases (e.f2.f1 == 0) <;> cases (e.f2.f2.toList == ([] : List UInt8)) <;> rfl
    by_cases h2 : aDk e.f2.f0 e.f2.f1 e.f2.f2 = true
    case neg =>
      rw [Bool.eq_false_iff.2 h2, Bool.false_and]
      exact Ev.step (fun k => rfl) (aAb h0 (aAb h1 (aAb (by rw [hv, Bool.eq_false_iff.2 h2]; rfl) hjt)))
    rw [h2, Bool.true_and]
    by_cases h3 : e.f3.toList = ([] : List UInt8)
    case neg =>
      rw [show (e.f3.toList == ([] : List UInt8)) = false from beq_eq_false_iff_ne.2 h3, Bool.false_and]
      exact Ev.step (fun k => rfl) (aAb h0 (aAb h1 (aAd (by rw [hv, h2]; simp) (aAd (by rw [nl]; exact h3) hjt))))
    rw [show (e.f3.toList == ([] : List UInt8)) = true from beq_iff_eq.2 h3, Bool.true_and]
    by_cases h4 : e.f4.length = 0
    case neg =>
      rw [decide_eq_false h4]
      exact Ev.step (fun k => rfl) (aAb h0 (aAb h1 (aAd (by rw [hv, h2]; simp) (aAb (by rw [nl]; exact h3) (aAd (by simpa using h4) hjt)))))
    rw [decide_eq_true h4]
    have hd : decide ((0 : Int) > 40) = false := by decide
    have l0 : Ev (fun k => bE.l0 k 0 (e.f4.length : Int) 0 e.f0 e.f1 e.f2.f0 e.f2.f1 e.f2.f2 e.f3 e.f4 0 0 0 0 (⟨#[]⟩ : ByteArray) (⟨#[]⟩ : ByteArray) ([] : List S39)) true := Ev.step (fun k => rfl) (aAd (by omega) (aAf fun _ => rfl))
    have jf : Ev (fun k => bE.j0 k 0 (decide ((0 : Int) > 40)) e.f0 e.f1 e.f2.f0 e.f2.f1 e.f2.f2 e.f3 e.f4 0 0 0 0 (⟨#[]⟩ : ByteArray) (⟨#[]⟩ : ByteArray) ([] : List S39)) true := by
      rw [hd]
      exact Ev.step (fun k => (hjx false k).trans (if_neg Bool.false_ne_true)) l0
    exact Ev.step (fun k => rfl) (aAb h0 (aAb h1 (aAd (by rw [hv, h2]; simp) (aAb (by rw [nl]; exact h3) (aAb (by simpa using h4) jf)))))
  exact Ev.congr (fun k => rfl) (Ev.bind one (f := fun k t => some t) (aAf fun _ => rfl))
def aFq (p : S42) (a1 a2 a3 a4 : Bool) : Bool := (!a1 || (p.f1.toList == ([] : List UInt8))) && ((!a2 || aFs p.f2) && ((!a3 || decide (p.f3.length = 0)) && (!a4 || p.f4 == 0)))
theorem aDy (p : S42) (hl : p.f2.f4.length ≤ 1048576) (a1 a2 a3 a4 : Bool) : Ev (fun k => bO.f k p.f0 p.f1 p.f2.f0 p.f2.f1 p.f2.f2.f0 p.f2.f2.f1 p.f2.f2.f2 p.f2.f3 p.f2.f4 p.f3 p.f4 p.f5 a1 a2 a3 a4) (aFq p a1 a2 a3 a4) := by
  have hs := aTr p.f2 hl
  have tail : (if a3 = true then (if (p.f3.length : Int) > 0 then (some (!true)) else (if a4 = true then (some (!(p.f4 != 0))) else (some (!false)))) else (if a4 = true then (some (!(p.f4 != 0))) else (some (!false)))) = some ((!a3 || decide (p.f3.length = 0)) && (!a4 || p.f4 == 0)) := by
    have e4 : (if a4 = true then (some (!(p.f4 != 0))) else (some (!false))) = some (!a4 || p.f4 == 0) := by
      cases a4 with
      | true => rw [if_pos rfl]; simp [bne]
      | false => rfl
    rw [e4]
    cases a3 with
    | false => rfl
    | true =>
      rw [if_pos rfl]
      by_cases h : p.f3.length = 0
      · rw [if_neg (by omega), decide_eq_true h]; rfl
      · rw [if_pos (by omega), decide_eq_false h]; rfl
  have mid : Ev (fun k => if a2 = true then ((fA.f k p.f2.f0 p.f2.f1 p.f2.f2.f0 p.f2.f2.f1 p.f2.f2.f2 p.f2.f3 p.f2.f4 0 0 0 0 (⟨#[]⟩ : ByteArray) (⟨#[]⟩ : ByteArray) ([] : List S39)).bind fun t => (if t = true then some ((!a3 || decide (p.f3.length = 0)) && (!a4 || p.f4 == 0)) else some (!true))) else some ((!a3 || decide (p.f3.length = 0)) && (!a4 || p.f4 == 0))) ((!a2 || aFs p.f2) && ((!a3 || decide (p.f3.length = 0)) && (!a4 || p.f4 == 0))) := by
    cases a2 with
    | false => exact aAd (by simp) (aAf fun _ => rfl)
    | true =>
      refine aAb rfl (Ev.bind hs ?_)
      cases aFs p.f2 with
      | true => exact aAb rfl (aAf fun _ => rfl)
      | false => exact aAd (by simp) (aAf fun _ => rfl)
  unfold bO.f aFq
  simp only [tail]
  cases a1 with
  | false => exact aAd (by simp) mid
  | true =>
    refine aAb rfl ?_
    by_cases hn : p.f1.toList = ([] : List UInt8)
    · rw [show (p.f1.toList == ([] : List UInt8)) = true from beq_iff_eq.2 hn]
      exact aAb hn mid
    · rw [show (p.f1.toList == ([] : List UInt8)) = false from beq_eq_false_iff_ne.2 hn]
      exact aAd hn (aAf fun _ => rfl)
theorem aRg (E_ : List S68 → Int → ByteArray → Int → Int → Int → Int → ByteArray → ByteArray → List S39 → List S39 → Int → List S42 → Int → Option Int) (db : List S68) (d : Int) (l : List S42) (v : S42 → Int) (hl : l.length ≤ 1048576)
    (hE : ∀ y ∈ l, E_ db y.f0 y.f1 y.f2.f0 y.f2.f1 y.f2.f2.f0 y.f2.f2.f1 y.f2.f2.f2 y.f2.f3 y.f2.f4 y.f3 y.f4 y.f5 (wrap64 (d + 1)) = some (v y)) :
    ∀ (q i : Nat) (acc : List Int) (k : Nat), l.length - i = q → i ≤ l.length → acc.length = i → q < k → dG.l0 E_ k db d acc l (l.length : Int) (i : Int) = some (if ((l.drop i).map v).any (fun x => decide (x < 0)) = true then ([], false) else (acc ++ (l.drop i).map v, true)) := by
  intro q
  induction q with
  | zero =>
    intro i acc k h1 h2 h3 hk
    obtain ⟨k, rfl⟩ : ∃ m, k = m + 1 := ⟨k - 1, by omega⟩
    rw [List.drop_eq_nil_of_le (show l.length ≤ i by omega)]
    show (if (i : Int) < (l.length : Int) then _ else some (acc, true)) = _
    rw [if_neg (by omega)]
    simp
  | succ q ih =>
    intro i acc k h1 h2 h3 hk
    obtain ⟨k, rfl⟩ : ∃ m, k = m + 1 := ⟨k - 1, by omega⟩
    have hi : i < l.length := by omega
    have e : aAe l (i : Int) = l.getD i z42 := by unfold aAe; rw [Int.toNat_natCast]
    have hy := hE _ (aCd z42 hi)
    rw [aBb z42 hi, List.map_cons, List.any_cons]
    generalize hz : l.getD i z42 = y at *
    simp only [dG.l0]
    rw [if_pos (by omega), if_pos (by omega), if_pos (by omega), e, hy, Option.bind_some, aBk hi (by omega)]
    by_cases hv : v y < 0
    · rw [if_pos hv, decide_eq_true hv, Bool.true_or, if_pos rfl]
    · rw [if_neg hv, if_pos (by omega), ih (i + 1) (acc ++ [v y]) k (by omega) (by omega) (by rw [List.length_append]; simp; omega) (by omega), decide_eq_false hv, Bool.false_or, List.append_assoc]
      rfl
def aUk (p : S42) (db : List S68) (ks : List Int) : Int × Bool :=
  if p.f0 = 0 then ((aSq (aEi p.f1 db)).1, (aSq (aEi p.f1 db)).2.2 && (aFq p false true true true && decide (p.f5.length = 0)))
  else if (p.f5.length : Int) = (if p.f0 = 3 ∨ p.f0 = 4 then 2 else 1) then
    (if ks.any (fun x => decide (x < 0)) = true then (0, false)
     else if p.f0 = 1 then (rd ks 0, aFq p true false true true && ovB p.f2 (rd ks 0))
     else if p.f0 = 2 then ((p.f3.length : Int), aFq p true true false true && (decide ((p.f3.length : Int) > 0) && p.f3.all (fun y => ovB y (rd ks 0))))
     else if p.f0 = 3 then (wrap64 (rd ks 0 + rd ks 1), aFq p true false true true && ovB p.f2 (wrap64 (rd ks 0 + rd ks 1)))
     else if p.f0 = 4 then (rd ks 0, aFq p true true true true && (rd ks 0 == rd ks 1))
     else if p.f0 = 5 then (rd ks 0, aFq p true true true true)
     else if p.f0 = 6 then (wrap64 (wrap64 (p.f4 + 1) + (p.f3.length : Int)), aFq p true true false false && (decide (0 ≤ p.f4 ∧ p.f4 ≤ rd ks 0) && (decide ((p.f3.length : Int) ≤ 1) && p.f3.all (fun y => ovB y (rd ks 0)))))
     else (0, false))
  else (0, false)
theorem aGq {g : Nat → Option Bool} {f : Nat → Option (Int × Bool)} {x : Int} {a b : Bool} (h : Ev g a) (hf : a = true → Ev f (x, b)) : Ev (fun k => (g k).bind fun t => if t = true then f k else some (x, false)) (x, a && b) := by
  refine Ev.bind h ?_
  cases a with
  | true => exact aAb rfl (hf rfl)
  | false => exact aAd (by simp) (aAf fun _ => rfl)
theorem aHh {g : Nat → Option Bool} {x : Int} {a : Bool} (h : Ev g a) : Ev (fun k => (g k).bind fun t => some (x, t)) (x, a) := Ev.bind h (aAf fun _ => rfl)
theorem aTy {f : Nat → Option (Int × Bool)} {x : Int} {c : Prop} [Decidable c] {b : Bool} (hf : c → Ev f (x, b)) : Ev (fun k => if c then f k else some (x, false)) (x, decide c && b) := by
  by_cases h : c
  · rw [decide_eq_true h, Bool.true_and]; exact aAb h (hf h)
  · rw [decide_eq_false h, Bool.false_and]; exact aAd h (aAf fun _ => rfl)
theorem aJj (n : Nat) (db : List S68) (p : S42) (d many : Int) (v : S42 → Int) (g1 : gdE n p.f2) (g3 : ∀ y ∈ p.f3, gdE n y) (g4 : p.f5.length ≤ 1048576) (k0 : ¬ p.f0 = 0) (hmany : many = if p.f0 = 3 ∨ p.f0 = 4 then 2 else 1)
    (hE : ∃ K, ∀ k, K ≤ k → ∀ y ∈ p.f5, iK.f k db y.f0 y.f1 y.f2.f0 y.f2.f1 y.f2.f2.f0 y.f2.f2.f1 y.f2.f2.f2 y.f2.f3 y.f2.f4 y.f3 y.f4 y.f5 (wrap64 (d + 1)) = some (v y)) :
    Ev (fun k => aG.j0 (iK.f k) k db d many p.f0 p.f1 p.f2.f0 p.f2.f1 p.f2.f2.f0 p.f2.f2.f1 p.f2.f2.f2 p.f2.f3 p.f2.f4 p.f3 p.f4 p.f5) (aUk p db (p.f5.map v)) := by
  have hl2 : p.f2.f4.length ≤ 1048576 := g1.2.2.2.2.2.1
  have kids : Ev (fun k => dG.f (iK.f (k + 1)) k p.f0 p.f1 p.f2.f0 p.f2.f1 p.f2.f2.f0 p.f2.f2.f1 p.f2.f2.f2 p.f2.f3 p.f2.f4 p.f3 p.f4 p.f5 db d many) (if (p.f5.length : Int) = many then (if (p.f5.map v).any (fun x => decide (x < 0)) = true then ([], false) else (p.f5.map v, true)) else ([], false)) := by
    by_cases hm : (p.f5.length : Int) = many
    · rw [if_pos hm]
      obtain ⟨K, hK⟩ := hE
      refine ⟨max K (p.f5.length + 1), fun k hk => ?_⟩
      have h := aRg (iK.f (k + 1)) db d p.f5 v g4 (hK (k + 1) (by omega)) p.f5.length 0 [] k (by omega) (by omega) rfl (by omega)
      rw [List.drop_zero, List.nil_append] at h
      exact (if_pos hm).trans h
    · rw [if_neg hm]
      exact Ev.congr (fun k => if_neg hm) (aAf fun _ => rfl)
  unfold aUk
  rw [if_neg k0, ← hmany]
  refine Ev.step (fun k => rfl) (Ev.bind kids ?_)
  by_cases hm : (p.f5.length : Int) = many
  case neg =>
    rw [if_neg hm, if_neg hm]
    exact aAd (by simp) (aAf fun _ => rfl)
  rw [if_pos hm, if_pos hm]
  by_cases ha : (p.f5.map v).any (fun x => decide (x < 0)) = true
  · rw [if_pos ha, if_pos ha]
    exact aAd (by simp) (aAf fun _ => rfl)
  rw [if_neg ha, if_neg ha]
  have hml : (p.f5.map v).length = p.f5.length := by simp
  have hm1 : 1 ≤ many := by rw [hmany]; split <;> omega
  generalize p.f5.map v = ks at *
  refine aAb rfl (aAb (by show 0 < (ks.length : Int); omega) ?_)
  dsimp only
  by_cases k1 : p.f0 = 1
  · rw [if_pos k1]
    exact aAb k1 (aGq (aDy p hl2 _ _ _ _) fun _ => aHh (aIv n _ g1 _))
  rw [if_neg k1]
  refine aAd k1 ?_
  by_cases k2 : p.f0 = 2
  · rw [if_pos k2]
    exact aAb k2 (aGq (aDy p hl2 _ _ _ _) fun _ => aTy fun _ => aHh (aKy n _ g3 _))
  rw [if_neg k2]
  refine aAd k2 ?_
  by_cases k3 : p.f0 = 3
  · rw [if_pos k3]
    have h2 : many = 2 := by rw [hmany, if_pos (Or.inl k3)]
    exact aAb k3 (aAb (by omega) (aGq (aDy p hl2 _ _ _ _) fun _ => aHh (aIv n _ g1 _)))
  rw [if_neg k3]
  refine aAd k3 ?_
  by_cases k4 : p.f0 = 4
  · rw [if_pos k4]
    have h2 : many = 2 := by rw [hmany, if_pos (Or.inr k4)]
    exact aAb k4 (aGq (aDy p hl2 _ _ _ _) fun _ => aAb (by omega) (aAf fun _ => rfl))
  rw [if_neg k4]
  refine aAd k4 ?_
  by_cases k5 : p.f0 = 5
  · rw [if_pos k5]
    exact aAb k5 (aHh (aDy p hl2 _ _ _ _))
  rw [if_neg k5]
  refine aAd k5 ?_
  by_cases k6 : p.f0 = 6
  · rw [if_pos k6]
    have hwi : dF.f p.f4 0 (rd ks 0) = some (decide (0 ≤ p.f4 ∧ p.f4 ≤ rd ks 0)) := by
      unfold dF.f
      by_cases h : 0 ≤ p.f4 <;> simp [h]
    exact aAb k6 (aGq (aDy p hl2 _ _ _ _) fun _ => aGq (aAf fun _ => hwi) fun _ => aTy fun _ => aHh (aKy n _ g3 _))
  rw [if_neg k6]
  exact aAd k6 (aAf fun _ => rfl)
theorem aPz (n : Nat) (db : List S68) (p : S42) (d : Int) (hd : ¬ d > 8) (v : S42 → Int) (g1 : gdE n p.f2) (g3 : ∀ y ∈ p.f3, gdE n y) (g4 : p.f5.length ≤ 1048576)
    (hE : ∃ K, ∀ k, K ≤ k → ∀ y ∈ p.f5, iK.f k db y.f0 y.f1 y.f2.f0 y.f2.f1 y.f2.f2.f0 y.f2.f2.f1 y.f2.f2.f2 y.f2.f3 y.f2.f4 y.f3 y.f4 y.f5 (wrap64 (d + 1)) = some (v y)) :
    Ev (fun k => aG.f (iK.f k) k p.f0 p.f1 p.f2.f0 p.f2.f1 p.f2.f2.f0 p.f2.f2.f1 p.f2.f2.f2 p.f2.f3 p.f2.f4 p.f3 p.f4 p.f5 db d) (aUk p db (p.f5.map v)) := by
  have hl2 : p.f2.f4.length ≤ 1048576 := g1.2.2.2.2.2.1
  refine Ev.congr (fun k => if_neg hd) ?_
  by_cases k0 : p.f0 = 0
  · refine aAb k0 (aBr (aKw db p.f1) ?_)
    unfold aUk
    rw [if_pos k0]
    have e1 : (aYb (aEi p.f1 db)).2.1 = (aSq (aEi p.f1 db)).1 := by cases aEi p.f1 db <;> rfl
    have e2 : (aYb (aEi p.f1 db)).2.2.2 = (aSq (aEi p.f1 db)).2.2 := by cases aEi p.f1 db <;> rfl
    rw [e1, e2]
    cases (aSq (aEi p.f1 db)).2.2 with
    | false => exact aAd (by simp) (aAf fun _ => rfl)
    | true =>
      refine aAb rfl (aAy (aGq (b := decide (p.f5.length = 0)) (aDy p hl2 _ _ _ _) fun _ => aAf fun _ => ?_) (by rw [Bool.true_and]))
      congr 2
      rw [Bool.eq_iff_iff, beq_iff_eq, decide_eq_true_eq]
      omega
  · refine aAd k0 ?_
    by_cases k3 : p.f0 = 3
    · exact aAb k3 (aJj n db p d 2 v g1 g3 g4 k0 (by rw [if_pos (Or.inl k3)]) hE)
    · refine aAd k3 ?_
      by_cases k4 : p.f0 = 4
      · exact aAb k4 (aJj n db p d 2 v g1 g3 g4 k0 (by rw [if_pos (Or.inr k4)]) hE)
      · exact aAd k4 (aJj n db p d 1 v g1 g3 g4 k0 (by rw [if_neg (by rintro (h | h); exact k3 h; exact k4 h)]) hE)
theorem aFy {a : Int} (h : a = 1 ∨ a = 2 ∨ a = 5 ∨ a = 6) : aHg a = 1 := by rcases h with rfl | rfl | rfl | rfl <;> decide
theorem aJg {a : Int} (h : a = 3 ∨ a = 4) : aHg a = 2 := by rcases h with rfl | rfl <;> decide
theorem aMj {a : Int} (h0 : ¬ a = 0) (h1 : ¬ a = 1) (h2 : ¬ a = 2) (h3 : ¬ a = 3) (h4 : ¬ a = 4) (h5 : ¬ a = 5) (h6 : ¬ a = 6) : aHg a = -1 := by
  unfold aHg
  rw [if_neg (by omega)]
theorem aKk {x : Int} {f a b : Bool} (h : a = (f && b)) : aPj (x, a) = if f = true then aPj (x, b) else -1 := by
  subst h
  cases f with
  | true => rw [if_pos rfl, Bool.true_and]
  | false => rw [if_neg (by simp)]; rfl
theorem aVu (db : List S68) (p : S42) (ks : List Int) (hks : ks.length = p.f5.length) : aPj (aUk p db ks) = if aGp p = true then (if ks.any (fun v => decide (v < 0)) = true then -1 else aPj (if p.f0 = 0 then aXc db p else aVi p (rd ks 0) (rd ks 1))) else -1 := by
  unfold aUk
  have nf : ∀ {f : Bool} {x : Int}, (¬ f = true → x = -1) → (if f = true then x else -1) = x := by
    intro f x h
    cases f with
    | true => rfl
    | false => exact (h (by simp)).symm
  have cz : aPj (0, false) = -1 := rfl
  by_cases k0 : p.f0 = 0
  · rw [if_pos k0, if_pos k0]
    have e : aGp p = (aFq p false true true true && decide (p.f5.length = 0)) := by
      unfold aGp aIm aFq
      have h2 : ((p.f5.length : Int) == 0) = decide (p.f5.length = 0) := by rw [Bool.eq_iff_iff, beq_iff_eq, decide_eq_true_eq]; omega
      rw [k0, show aHg 0 = 0 from rfl, h2]
      cases aFs p.f2 <;> cases decide (p.f3.length = 0) <;> cases (p.f4 == 0) <;> cases decide (p.f5.length = 0) <;> rfl
    rw [e]
    by_cases hf : (aFq p false true true true && decide (p.f5.length = 0)) = true
    · rw [if_pos hf, hf, Bool.and_true]
      have hz : ks = [] := List.length_eq_zero_iff.1 (by rw [hks]; have := (Bool.and_eq_true _ _ ▸ hf).2; exact of_decide_eq_true this)
      rw [hz, if_neg (by simp)]
      rfl
    · rw [if_neg hf, Bool.eq_false_iff.2 hf, Bool.and_false]
      rfl
  rw [if_neg k0, if_neg k0]
  by_cases hm : (p.f5.length : Int) = (if p.f0 = 3 ∨ p.f0 = 4 then 2 else 1)
  case neg =>
    rw [if_neg hm, cz, if_neg]
    intro hf
    have hk := aJp hf
    apply hm
    rw [hk]
    by_cases h34 : p.f0 = 3 ∨ p.f0 = 4
    · rw [if_pos h34, aJg h34]
    · rw [if_neg h34]
      by_cases h1 : p.f0 = 1 ∨ p.f0 = 2 ∨ p.f0 = 5 ∨ p.f0 = 6
      · rw [aFy h1]
      · rw [aMj k0 (fun h => h1 (Or.inl h)) (fun h => h1 (Or.inr (Or.inl h))) (fun h => h34 (Or.inl h)) (fun h => h34 (Or.inr h)) (fun h => h1 (Or.inr (Or.inr (Or.inl h)))) (fun h => h1 (Or.inr (Or.inr (Or.inr h))))] at hk
        omega
  rw [if_pos hm]
  by_cases ha : ks.any (fun x => decide (x < 0)) = true
  · rw [if_pos ha, if_pos ha, cz]
    split <;> rfl
  rw [if_neg ha, if_neg ha]
  unfold aVi
  have fk : ∀ c : Int, aHg p.f0 = c → (p.f5.length : Int) = c → ((p.f5.length : Int) == aHg p.f0) = true := fun c h1 h2 => by rw [h1, h2]; exact beq_self_eq_true c
  by_cases k1 : p.f0 = 1
  · rw [if_neg (by omega)] at hm
    rw [if_pos k1, if_pos k1]
    refine aKk ?_
    unfold aGp aIm aFq
    rw [fk 1 (aFy (Or.inl k1)) hm, k1]
    cases (p.f1.toList == ([] : List UInt8)) <;> cases decide (p.f3.length = 0) <;> cases (p.f4 == 0) <;> cases aFs p.f2 <;> rfl
  rw [if_neg k1, if_neg k1]
  by_cases k2 : p.f0 = 2
  · rw [if_neg (by omega)] at hm
    rw [if_pos k2, if_pos k2]
    refine aKk ?_
    unfold aGp aIm aFq
    rw [fk 1 (aFy (Or.inr (Or.inl k2))) hm, k2]
    cases (p.f1.toList == ([] : List UInt8)) <;> cases decide (p.f3.length = 0) <;> cases (p.f4 == 0) <;> cases aFs p.f2 <;> rfl
  rw [if_neg k2, if_neg k2]
  by_cases k3 : p.f0 = 3
  · rw [if_pos (Or.inl k3)] at hm
    rw [if_pos k3, if_pos k3]
    refine aKk ?_
    unfold aGp aIm aFq
    rw [fk 2 (aJg (Or.inl k3)) hm, k3]
    cases (p.f1.toList == ([] : List UInt8)) <;> cases decide (p.f3.length = 0) <;> cases (p.f4 == 0) <;> cases aFs p.f2 <;> rfl
  rw [if_neg k3, if_neg k3]
  by_cases k4 : p.f0 = 4
  · rw [if_pos (Or.inr k4)] at hm
    rw [if_pos k4, if_pos k4]
    refine aKk ?_
    unfold aGp aIm aFq
    rw [fk 2 (aJg (Or.inr k4)) hm, k4]
    cases (p.f1.toList == ([] : List UInt8)) <;> cases decide (p.f3.length = 0) <;> cases (p.f4 == 0) <;> cases aFs p.f2 <;> rfl
  rw [if_neg k4, if_neg k4]
  by_cases k5 : p.f0 = 5
  · rw [if_neg (by omega)] at hm
    rw [if_pos k5, if_neg (show ¬ p.f0 = 6 by omega)]
    refine aKk ?_
    unfold aGp aIm aFq
    rw [fk 1 (aFy (Or.inr (Or.inr (Or.inl k5)))) hm, k5]
    cases (p.f1.toList == ([] : List UInt8)) <;> cases decide (p.f3.length = 0) <;> cases (p.f4 == 0) <;> cases aFs p.f2 <;> rfl
  rw [if_neg k5]
  by_cases k6 : p.f0 = 6
  · rw [if_neg (by omega)] at hm
    rw [if_pos k6, if_pos k6]
    refine aKk ?_
    unfold aGp aIm aFq
    rw [fk 1 (aFy (Or.inr (Or.inr (Or.inr k6)))) hm, k6]
    cases (p.f1.toList == ([] : List UInt8)) <;> cases decide (p.f3.length = 0) <;> cases (p.f4 == 0) <;> cases aFs p.f2 <;> rfl
  rw [if_neg k6, if_neg k6, cz, if_neg]
  intro hf
  have hk := aJp hf
  rw [aMj k0 k1 k2 k3 k4 k5 k6] at hk
  omega
theorem aId (n : Nat) (db : List S68) : ∀ (m : Nat) (p : S42), m ≤ 9 → gdP n m p → Ev (fun k => iK.f k db p.f0 p.f1 p.f2.f0 p.f2.f1 p.f2.f2.f0 p.f2.f2.f1 p.f2.f2.f2 p.f2.f3 p.f2.f4 p.f3 p.f4 p.f5 (9 - (m : Int))) (wid db m p)
  | 0, p, _, _ => by
    have h : Ev (fun k => aG.f (iK.f k) k p.f0 p.f1 p.f2.f0 p.f2.f1 p.f2.f2.f0 p.f2.f2.f1 p.f2.f2.f2 p.f2.f3 p.f2.f4 p.f3 p.f4 p.f5 db (9 - ((0 : Nat) : Int))) (0, false) := Ev.congr (fun k => if_pos (by omega)) (aAf fun _ => rfl)
    exact Ev.step (fun k => rfl) (Ev.bind h (aAd (by simp) (aAf fun _ => rfl)))
  | m + 1, p, hm, hg => by
    obtain ⟨g1, g2, g3, g4, g5⟩ := hg
    have ed : wrap64 ((9 - ((m + 1 : Nat) : Int)) + 1) = 9 - (m : Int) := by rw [aDl (by omega) (by omega)]; omega
    obtain ⟨K, hK⟩ := aEl (xs := p.f5) (P := fun k y => iK.f k db y.f0 y.f1 y.f2.f0 y.f2.f1 y.f2.f2.f0 y.f2.f2.f1 y.f2.f2.f2 y.f2.f3 y.f2.f4 y.f3 y.f4 y.f5 (9 - (m : Int)) = some (wid db m y)) fun y hy => aId n db m y (by omega) (g5 y hy)
    have h := aPz n db p (9 - ((m + 1 : Nat) : Int)) (by omega) (wid db m) g1 g3 g4 ⟨K, fun k hk y hy => by rw [ed]; exact hK k hk y hy⟩
    have hw := aVu db p (p.f5.map (wid db m)) (by simp)
    have hw' : wid db (m + 1) p = aPj (aUk p db (p.f5.map (wid db m))) := hw.symm
    rw [hw']
    generalize aUk p db (p.f5.map (wid db m)) = r at *
    refine Ev.step (fun k => rfl) (Ev.bind h ?_)
    obtain ⟨x, b⟩ := r
    cases b with
    | false => exact aAd (by simp) (aAf fun _ => rfl)
    | true =>
      refine aAb rfl (aAy ?_ (aLo rfl).symm)
      by_cases hx : x > 12
      · exact aAy (aAb hx (aAf fun _ => rfl)) (if_pos hx).symm
      · exact aAy (aAd hx (aAd (by omega) (aAf fun _ => rfl))) (if_neg hx).symm
def aTt : Nat → S27 → Prop
  | 0, _ => False
  | n + 1, x => (-9223372036854775808 ≤ x.f1 ∧ x.f1 ≤ 9223372036854775807) ∧ ∀ y ∈ x.f4, aTt n y
theorem aIu : ∀ (n m : Nat) (x : S27), n ≤ m → aTt n x → aTt m x
  | 0, _, _, _, h => h.elim
  | n + 1, 0, _, hm, _ => absurd hm (by omega)
  | n + 1, m + 1, x, hm, h => ⟨h.1, fun y hy => aIu n m y (by omega) (h.2 y hy)⟩
theorem wf_i64 {z : Int} (h : -9223372036854775808 ≤ z ∧ z ≤ 9223372036854775807) : (Lit.int .i64 z).wf = true := by
  simp [Lit.wf, IntKind.min, IntKind.max, IntKind.bits, IntKind.signed]
  omega
theorem aVs : ∀ (n m : Nat) (x : S27), aGf n x ≤ 1048576 → aTt n x → nE m (aBy n x)
  | 0, _, _, _, h => h.elim
  | _ + 1, 0, _, _, _ => trivial
  | n + 1, m + 1, x, hw, h => ⟨wf_i64 h.1, by show (x.f4.map (aBy n)).length ≤ _; rw [List.length_map]; exact aMa hw, fun z hz => by
      obtain ⟨y, hy, rfl⟩ := List.mem_map.1 (show z ∈ x.f4.map (aBy n) from hz)
      exact aVs n m y (aLi hw hy) (h.2 y hy)⟩
theorem aXq : ∀ (n : Nat) (x : S27), aNy n x → hE n (aBy n x)
  | 0, _, h => h.elim
  | n + 1, x, h => fun z hz => by
    obtain ⟨y, hy, rfl⟩ := List.mem_map.1 (show z ∈ x.f4.map (aBy n) from hz)
    exact aXq n y (h.2.2.2 y hy)
theorem aUc : ∀ (n : Nat) (x : S27), ndE n (aBy n x) ≤ 1 + aGf n x
  | 0, _ => Nat.zero_le _
  | n + 1, x => by
    show 1 + ((x.f4.map (aBy n)).map (ndE n)).sum ≤ 1 + (x.f2.f2.size + (x.f3.size + (x.f4.length + (x.f4.map (aGf n)).sum)))
    have : ∀ l : List S27, ((l.map (aBy n)).map (ndE n)).sum ≤ l.length + (l.map (aGf n)).sum := by
      intro l
      induction l with
      | nil => exact Nat.le_refl _
      | cons a l ih =>
        have ha := aUc n a
        simp only [List.map_cons, List.sum_cons, List.length_cons]
        omega
    have := this x.f4
    omega
theorem aUh (e : Nat) (h13 : 13 ≤ e) (x : S27) (ho : aNy e x) (hi : aTt e x) (hw : aGf e x ≤ 1048576) : gdE e (aBy e x) :=
  ⟨h13, aXq e x ho, aVs e e x hw hi, aVs e 41 x hw hi, Nat.le_trans (aUc e x) (by omega), aNn e 13 x hw⟩
def aWk (e : Nat) : Nat → S30 → Prop
  | 0, _ => False
  | n + 1, x => aTt e x.f2 ∧ (∀ y ∈ x.f3, aTt e y) ∧ ∀ y ∈ x.f5, aWk e n y
theorem aUd (e : Nat) (h13 : 13 ≤ e) : ∀ (n m : Nat) (x : S30), okP e n x → aWk e n x → wtP e n x ≤ 1048576 → gdP e m (aBz e n x)
  | 0, _, _, h, _, _ => h.elim
  | _ + 1, 0, _, _, _, _ => trivial
  | n + 1, m + 1, x, ho, hi, hw => by
    obtain ⟨_, o2, _, o3, _, o5⟩ := ho
    obtain ⟨i2, i3, i5⟩ := hi
    obtain ⟨w2, w3, w5, w3'⟩ := aJu hw
    refine ⟨aUh e h13 x.f2 o2 i2 w2, by show (x.f3.map (aBy e)).length ≤ _; rw [List.length_map]; exact w3, fun z hz => ?_, by show (x.f5.map (aBz e n)).length ≤ _; rw [List.length_map]; exact w5, fun z hz => ?_⟩
    · obtain ⟨y, hy, rfl⟩ := List.mem_map.1 (show z ∈ x.f3.map (aBy e) from hz)
      exact aUh e h13 y (o3 y hy) (i3 y hy) (w3' y hy)
    · obtain ⟨y, hy, rfl⟩ := List.mem_map.1 (show z ∈ x.f5.map (aBz e n) from hz)
      exact aUd e h13 n m y (o5 y hy) (i5 y hy) (aNu hw hy)
theorem aKx (e : Nat) (db : List S68) (hdb : db.length ≤ 1048576) (p : S42) (hg : gdP e 9 p) :
    Ev (fun k => rT.f k db p.f0 p.f1 p.f2.f0 p.f2.f1 p.f2.f2.f0 p.f2.f2.f1 p.f2.f2.f2 p.f2.f3 p.f2.f4 p.f3 p.f4 p.f5) (wid db 9 p) ∧
    Ev (fun k => uQ.f k db p.f0 p.f1 p.f2.f0 p.f2.f1 p.f2.f2.f0 p.f2.f2.f1 p.f2.f2.f2 p.f2.f3 p.f2.f4 p.f3 p.f4 p.f5) (wid db 9 p) := by
  have h1 := aIh e db hdb 9 p (Nat.le_refl _) hg
  have h2 := aId e db 9 p (Nat.le_refl _) hg
  exact ⟨Ev.congr (fun k => rfl) (Ev.bind h1 (f := fun k t => some t) (aAf fun _ => rfl)), Ev.congr (fun k => rfl) (Ev.bind h2 (f := fun k t => some t) (aAf fun _ => rfl))⟩
theorem P7 (xs : List S83) (hn : xs.length ≤ 1048576) : Ev (fun k => fF.f k xs) (xs.map fun x => x.f0) := by
  have h : ∀ (n i : Nat) (ys : List ByteArray), xs.length - i = n → i ≤ xs.length → ys = (xs.take i).map (fun x => x.f0) → Ev (fun k => fF.l0 k ys xs (xs.length : Int) i) (xs.map fun x => x.f0) := by
    intro n
    induction n with
    | zero =>
      intro i ys h1 h2 h3
      refine Ev.step (fun k => rfl) (aAd (by omega) (aAy (aAf fun _ => rfl) ?_))
      rw [h3, List.take_of_length_le (by omega)]
    | succ n ih =>
      intro i ys h1 h2 h3
      have hi : i < xs.length := by omega
      have hl : ys.length = i := by rw [h3]; simp; omega
      refine Ev.step (fun k => rfl) (aAb (by omega) (aAb (by omega) (aAb (by omega) (aAb (by omega) ?_))))
      rw [aBk hi (by omega)]
      refine ih (i + 1) _ (by omega) (by omega) ?_
      rw [h3, List.take_succ_eq_append_getElem hi, List.map_append]
      have : (xs.getD i z83) = xs[i] := by rw [List.getD_eq_getElem?_getD, List.getElem?_eq_getElem hi]; rfl
      rw [List.map_cons, List.map_nil, ← this]
      rfl
  exact h xs.length 0 [] rfl (Nat.zero_le _) rfl
def aQs (db : List S68) (vs : List S83) (j : Nat) : Prop :=
  aIk (vs.getD j z83).f0 ∧ aEi (vs.getD j z83).f0 db = none ∧ ¬ wid db 9 (vs.getD j z83).f1 < 0 ∧ (0 < j → Op.bytesLess (vs.getD (j - 1) z83).f0.toList (vs.getD j z83).f0.toList = true)
def VwP (db : List S68) (vs : List S83) : Prop := (∀ j, j < vs.length → aQs db vs j) ∧ (DbP db ∧ vs.length ≤ 10)
def aXw (db : List S68) : Prop := db.length ≤ 1048576 ∧ ∀ x ∈ db, x.f0.size ≤ 9223372036854775807 ∧ x.f1.f1.length ≤ 1048576 ∧ ∀ y ∈ x.f1.f1, y.f0.length ≤ 1048576
open Classical in
theorem UF (e : Nat) (db : List S68) (hd : aXw db) (vs : List S83) (hn : vs.length ≤ 1048576) (hx : ∀ x ∈ vs, x.f0.size ≤ 9223372036854775807 ∧ gdP e 9 x.f1) (r : Bool) (hr : r = true ↔ VwP db vs) : Ev (fun k => bR.f k db vs) r := by
  refine aEy vs.length (fun k i => bR.l0 k db vs i) (aQs db vs) (DbP db ∧ vs.length ≤ 10) ?_ ?_ r hr
  · intro r hr
    refine Ev.step (fun k => rfl) (aAd (by omega) (Ev.bind (a95 db hd.1 hd.2 (decide (DbP db)) decide_eq_true_iff) ?_))
    by_cases h1 : DbP db
    · refine aAb (decide_eq_true h1) (aAf fun _ => ?_)
      congr 1
      rw [Bool.eq_iff_iff, hr, decide_eq_true_eq]
      exact ⟨fun h => ⟨h1, by omega⟩, fun h => by have := h.2; omega⟩
    · refine aAd (by simpa using h1) (aAf fun _ => ?_)
      congr 1
      cases r with
      | false => rfl
      | true => exact absurd (hr.1 rfl).1 h1
  · intro i hi r next no
    have hl := hx _ (aCd z83 hi)
    have stop : ¬ aQs db vs i → Ev (fun _ : Nat => some false) r := fun g => aAy (aAf fun _ => rfl) (no g).symm
    have e1 : aAl vs (i : Int) = vs.getD i z83 := by unfold aAl; rw [Int.toNat_natCast]
    have hw := (aKx e db hd.1 (vs.getD i z83).f1 hl.2).1
    refine Ev.step (fun k => rfl) (aAb (by omega) (aAb (by omega) ?_))
    rw [e1]
    refine Ev.bind (aMv db hd.1 (vs.getD i z83).f0) (Ev.bind (JM (vs.getD i z83).f0 hl.1 (decide (aIk (vs.getD i z83).f0)) decide_eq_true_iff) ?_)
    by_cases h1 : aIk (vs.getD i z83).f0
    case neg => exact aAd (by simpa using h1) (stop fun g => h1 g.1)
    refine aAb (decide_eq_true h1) ?_
    cases h2 : aEi (vs.getD i z83).f0 db with
    | some q => exact aAb rfl (stop fun g => by have g1 := g.2.1; rw [h2] at g1; cases g1)
    | none =>
      refine aAd (by show ¬ false = true; simp) (Ev.bind hw ?_)
      by_cases h3 : wid db 9 (vs.getD i z83).f1 < 0
      · exact aAb h3 (stop fun g => g.2.2.1 h3)
      · refine aAd h3 ?_
        rw [aBk hi (by omega)]
        by_cases h4 : 0 < i
        case neg => exact aAd (by omega) (next ⟨h1, h2, h3, fun g => absurd g h4⟩)
        have e2 : aAl vs ((i - 1 : Nat) : Int) = vs.getD (i - 1) z83 := by unfold aAl; rw [Int.toNat_natCast]
        rw [aFg h4 (by omega), e2]
        refine aAb (by omega) (aAb (by omega) (aAb (by omega) ?_))
        by_cases h5 : Op.bytesLess (vs.getD (i - 1) z83).f0.toList (vs.getD i z83).f0.toList = true
        · exact aAb h5 (next ⟨h1, h2, h3, fun _ => h5⟩)
        · exact aAd h5 (stop fun g => h5 (g.2.2.2 h4))
def aQz (db : List S68) (x : S83) : Bool := (aEi x.f0 db).isNone && decide (wid db 9 x.f1 ≥ 0)
theorem aQa (e : Nat) (db : List S68) (hd : aXw db) (x : S83) (hx : gdP e 9 x.f1) : Ev (fun k => aFo k db x) (aQz db x) := by
  have hw := (aKx e db hd.1 x.f1 hx).2
  have hr : Ev (fun k => pW.f k db x.f1.f0 x.f1.f1 x.f1.f2.f0 x.f1.f2.f1 x.f1.f2.f2.f0 x.f1.f2.f2.f1 x.f1.f2.f2.f2 x.f1.f2.f3 x.f1.f2.f4 x.f1.f3 x.f1.f4 x.f1.f5) (decide (wid db 9 x.f1 ≥ 0)) := Ev.congr (fun k => rfl) (Ev.bind hw (f := fun k t => some (decide (t ≥ 0))) (aAf fun _ => rfl))
  unfold aQz
  refine Ev.congr (fun k => rfl) (aBr (aKw db x.f0) ?_)
  cases aEi x.f0 db with
  | some q => exact aAb rfl (aAf fun _ => rfl)
  | none => exact aAd (by show ¬ false = true; simp) (Ev.bind hr (aAf fun _ => by simp))
open Classical in
theorem UB (e : Nat) (db : List S68) (hd : aXw db) (vs : List S83) (hn : vs.length ≤ 1048576) (hx : ∀ x ∈ vs, x.f0.size ≤ 9223372036854775807 ∧ gdP e 9 x.f1) (r : Bool) (hr : r = true ↔ VwP db vs) : Ev (fun k => nK.f k db vs) r := by
  have no : ¬ VwP db vs → r = false := fun h => by
    cases r with
    | false => rfl
    | true => exact absurd (hr.1 rfl) h
  have nm : ∀ j, j < vs.length → (vs.map fun x => x.f0).getD j ByteArray.empty = (vs.getD j z83).f0 := fun j hj => by
    rw [List.getD_eq_getElem?_getD, List.getElem?_eq_getElem (by simpa using hj), List.getD_eq_getElem?_getD, List.getElem?_eq_getElem hj]
    simp
  refine Ev.congr (fun k => rfl) (Ev.bind (a2J db hd.1 hd.2 (decide (DbP db)) decide_eq_true_iff) ?_)
  by_cases h0 : DbP db
  case neg => exact aAd (by simpa using h0) (aAy (aAf fun _ => rfl) (no fun g => h0 g.2.1).symm)
  refine aAb (decide_eq_true h0) ?_
  by_cases hl : (vs.length : Int) ≤ 10
  case neg => exact aAd hl (aAy (aAf fun _ => rfl) (no fun g => by have := g.2.2; omega).symm)
  refine aAb hl (Ev.bind (P7 vs hn) (Ev.bind (EL (vs.map fun x => x.f0) (by simp; omega) (decide (∀ j, j < (vs.map fun x => x.f0).length → aIw (vs.map fun x => x.f0) j)) decide_eq_true_iff) ?_))
  by_cases h1 : ∀ j, j < (vs.map fun x => x.f0).length → aIw (vs.map fun x => x.f0) j
  case neg =>
    refine aAd (by rw [decide_eq_true_eq]; exact h1) (aAy (aAf fun _ => rfl) (no fun g => h1 fun j hj => ?_).symm)
    have hj' : j < vs.length := by simpa using hj
    have := g.1 j hj'
    refine ⟨by rw [nm j hj']; exact this.1, fun h0 => ?_⟩
    rw [nm j hj', nm (j - 1) (by omega)]
    exact this.2.2.2 h0
  refine aAb (decide_eq_true h1) (aAy (aIr fun x hx' => aQa e db hd x (hx x hx').2) ?_)
  rw [Bool.eq_iff_iff, hr, List.all_eq_true]
  constructor
  · intro h
    refine ⟨fun j hj => ?_, h0, by omega⟩
    have h2 := h1 j (by simpa using hj)
    have h3 := h _ (aCd z83 hj)
    unfold aQz at h3
    rw [Bool.and_eq_true, decide_eq_true_eq, Option.isNone_iff_eq_none] at h3
    refine ⟨by have := h2.1; rwa [nm j hj] at this, h3.1, by omega, fun h0 => ?_⟩
    have := h2.2 h0
    rwa [nm j hj, nm (j - 1) (by omega)] at this
  · intro h x hx'
    refine (aDw z83 (p := fun x => aQz db x = true)).1 (fun j hj => ?_) x hx'
    have := h.1 j hj
    unfold aQz
    rw [Bool.and_eq_true, decide_eq_true_eq, Option.isNone_iff_eq_none]
    exact ⟨this.2.1, by have := this.2.2.1; omega⟩
def aYn (e n : Nat) (x : S79) : Prop := x.f0.size ≤ 9223372036854775807 ∧ okP e n x.f1 ∧ x.f2.f1.length ≤ 9223372036854775807 ∧ ∀ y ∈ x.f2.f1, okC y
def aWj (e n : Nat) (x : S79) : Nat := x.f0.size + (wtP e n x.f1 + aNm x.f2.f1)
theorem aRt (e n : Nat) (x : S79) (h : aYn e n x) (l : Int) (h0 : 0 ≤ l) (h1 : l ≤ 1048576) : Ev (fun k => mV.f k x.f0 x.f1.f0 x.f1.f1 x.f1.f2.f0 x.f1.f2.f1 x.f1.f2.f2.f0 x.f1.f2.f2.f1 x.f1.f2.f2.f2 x.f1.f2.f3 x.f1.f2.f4 x.f1.f3 x.f1.f4 x.f1.f5 x.f2.f0 x.f2.f1 l) (lft l (aWj e n x)) := by
  obtain ⟨g0, g1, g2, g3⟩ := h
  unfold mV.f aWj
  rw [aDl (x := l - (x.f0.size : Int)) (by omega) (by omega)]
  by_cases ha : l - (x.f0.size : Int) < 0
  · exact aAb ha (aAy (aAf fun _ => rfl) (aBd (by omega)).symm)
  refine aAd ha ?_
  obtain ⟨K, hK⟩ := aMw e n x.f1 g1
  have ep : Ev (fun k => iC.f k x.f1.f0 x.f1.f1 x.f1.f2.f0 x.f1.f2.f1 x.f1.f2.f2.f0 x.f1.f2.f2.f1 x.f1.f2.f2.f2 x.f1.f2.f3 x.f1.f2.f4 x.f1.f3 x.f1.f4 x.f1.f5 (l - (x.f0.size : Int))) (lft (l - (x.f0.size : Int)) (wtP e n x.f1)) := ⟨K, fun k hk => hK k hk _ (by omega) (by omega)⟩
  refine Ev.bind ep ?_
  by_cases hb : ((wtP e n x.f1 : Nat) : Int) ≤ l - (x.f0.size : Int)
  case neg => exact aAb (by rw [aBd hb]; omega) (aAy (aAf fun _ => rfl) (aBd (by omega)).symm)
  rw [aBl hb]
  refine aAd (by omega) (Ev.bind (aPd x.f2.f0 x.f2.f1 g2 g3 _ (by omega) (by omega)) ?_)
  by_cases hc : ((aNm x.f2.f1 : Nat) : Int) ≤ l - (x.f0.size : Int) - (wtP e n x.f1 : Nat)
  · rw [aBl hc, aBl (by omega)]
    refine aAd (by omega) (aAf fun _ => ?_)
    congr 1
    omega
  · rw [aBd hc, aBd (by omega)]
    exact aAb (by omega) (aAf fun _ => rfl)
def aTa (e n : Nat) (l : List S79) : Nat := l.length + (l.map (aWj e n)).sum
theorem aQj (e n : Nat) (xs : List S79) (hn : xs.length ≤ 9223372036854775807) (hx : ∀ x ∈ xs, aYn e n x) (l : Int) (h0 : 0 ≤ l) (h1 : l ≤ 1048576) : Ev (fun k => gF.f k xs l) (lft l (aTa e n xs)) :=
  aLv z79 gF.f gF.l0 (fun k x l => mV.f k x.f0 x.f1.f0 x.f1.f1 x.f1.f2.f0 x.f1.f2.f1 x.f1.f2.f2.f0 x.f1.f2.f2.f1 x.f1.f2.f2.f2 x.f1.f2.f3 x.f1.f2.f4 x.f1.f3 x.f1.f4 x.f1.f5 x.f2.f0 x.f2.f1 l) (aWj e n) (fun _ _ _ => rfl) (fun _ _ _ _ => rfl) xs hn (fun x hx' l h0 h1 => aRt e n x (hx x hx') l h0 h1) l h0 h1
theorem aQq {e n : Nat} {xs : List S79} {l : Int} (h : (aTa e n xs : Int) ≤ l) (hl : l ≤ 1048576) : xs.length ≤ 1048576 ∧ ∀ x ∈ xs, wtP e n x.f1 ≤ 1048576 ∧ aNm x.f2.f1 ≤ 1048576 := by
  unfold aTa at h
  refine ⟨by omega, fun x hx => ?_⟩
  have h1 := aDe (aWj e n) hx
  unfold aWj at h1 h
  constructor <;> omega
def aUm (e n : Nat) (x : S79) : S83 := ⟨x.f0, aBz e n x.f1, ⟨x.f2.f0, x.f2.f1.map toC⟩⟩
theorem aPu (e n : Nat) (xs : List S79) (hn : xs.length ≤ 1048576) (hx : ∀ x ∈ xs, okP e n x.f1 ∧ wtP e n x.f1 ≤ 1048576 ∧ aNm x.f2.f1 ≤ 1048576) : Ev (fun k => dV.f k xs) (xs.map (aUm e n)) := by
  refine aAy (aIs z79 z83 dV.f dV.l0 (fun k x => wT.f k x.f0 x.f1.f0 x.f1.f1 x.f1.f2.f0 x.f1.f2.f1 x.f1.f2.f2.f0 x.f1.f2.f2.f1 x.f1.f2.f2.f2 x.f1.f2.f3 x.f1.f2.f4 x.f1.f3 x.f1.f4 x.f1.f5 x.f2.f0 x.f2.f1) (fun bt => (⟨bt.1, ⟨bt.2.1, bt.2.2.1, ⟨bt.2.2.2.1, bt.2.2.2.2.1, ⟨bt.2.2.2.2.2.1, bt.2.2.2.2.2.2.1, bt.2.2.2.2.2.2.2.1⟩, bt.2.2.2.2.2.2.2.2.1, bt.2.2.2.2.2.2.2.2.2.1⟩, bt.2.2.2.2.2.2.2.2.2.2.1, bt.2.2.2.2.2.2.2.2.2.2.2.1, bt.2.2.2.2.2.2.2.2.2.2.2.2.1⟩, ⟨bt.2.2.2.2.2.2.2.2.2.2.2.2.2.1, bt.2.2.2.2.2.2.2.2.2.2.2.2.2.2⟩⟩ : S83)) (fun x => (x.f0, (aBz e n x.f1).f0, (aBz e n x.f1).f1, (aBz e n x.f1).f2.f0, (aBz e n x.f1).f2.f1, (aBz e n x.f1).f2.f2.f0, (aBz e n x.f1).f2.f2.f1, (aBz e n x.f1).f2.f2.f2, (aBz e n x.f1).f2.f3, (aBz e n x.f1).f2.f4, (aBz e n x.f1).f3, (aBz e n x.f1).f4, (aBz e n x.f1).f5, x.f2.f0, x.f2.f1.map toC)) 1303124892178 (fun _ _ => rfl) (fun _ _ _ _ => rfl) xs (by omega) (by omega) (fun x h => ?_)) (List.map_congr_left fun x _ => ?_)
  rotate_left
  · unfold aUm
    generalize aBz e n x.f1 = y
    obtain ⟨y0, y1, ⟨z0, z1, z2, z3, z4⟩, y3, y4, y5⟩ := y
    rfl
  obtain ⟨o, w1, w2⟩ := hx x h
  have tp := aMi e n x.f1 o w1
  have bb := aKp (xs := x.f2.f1) (l := 1048576) (by omega) (by omega)
  exact Ev.bind tp (Ev.bind (aOn x.f2.f0 x.f2.f1 (by omega) (fun y hy => Nat.le_trans (bb.2 y hy) (by omega))) (aAf fun _ => rfl))
theorem aNg (e n : Nat) (xs : List S79) (hn : xs.length ≤ 1048576) (hx : ∀ x ∈ xs, okP e n x.f1 ∧ wtP e n x.f1 ≤ 1048576 ∧ aNm x.f2.f1 ≤ 1048576) : Ev (fun k => dO.f k (xs.map (aUm e n)) (xs.map (aUm e n))) true := by
  refine aLc z83 dO.f dO.l0 (fun k x y => wU.f k x.f0 x.f1.f0 x.f1.f1 x.f1.f2.f0 x.f1.f2.f1 x.f1.f2.f2.f0 x.f1.f2.f2.f1 x.f1.f2.f2.f2 x.f1.f2.f3 x.f1.f2.f4 x.f1.f3 x.f1.f4 x.f1.f5 x.f2.f0 x.f2.f1 y.f0 y.f1.f0 y.f1.f1 y.f1.f2.f0 y.f1.f2.f1 y.f1.f2.f2.f0 y.f1.f2.f2.f1 y.f1.f2.f2.f2 y.f1.f2.f3 y.f1.f2.f4 y.f1.f3 y.f1.f4 y.f1.f5 y.f2.f0 y.f2.f1) (fun _ _ _ => rfl) (fun _ _ _ _ => rfl) (xs.map (aUm e n)) (by rw [List.length_map]; omega) fun z hz => ?_
  obtain ⟨x, hx', rfl⟩ := List.mem_map.1 hz
  obtain ⟨o, w1, w2⟩ := hx x hx'
  have bb := aKp (xs := x.f2.f1) (l := 1048576) (by omega) (by omega)
  have ep := aIz e n x.f1 o w1
  have eb := aKz x.f2.f0 (x.f2.f1.map toC) (by rw [List.length_map]; omega) (fun y hy => Nat.le_trans (aOa bb.2 y hy) (by omega))
  exact Ev.congr (fun k => if_pos rfl) (Ev.bind ep (aAb rfl (Ev.bind eb (aAb rfl (aAf fun _ => rfl)))))
end Go.Proofs.YtnobhkmpkichdaaGreat.PFnExactViewsOk
