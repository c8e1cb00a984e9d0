/- Plain lemmas on what the functions of the law FnExactWidth compute: numbers and lists alone. -/
import Derived.Test.YtnobhkmpkichdaaGreatPFnExactWidthx0
import Derived.Test.YtnobhkmpkichdaaGreatPFnExactWidthx1
import Derived.Test.YtnobhkmpkichdaaGreatPFnExactWidthx2
import Derived.Test.YtnobhkmpkichdaaGreatPFnExactWidthx3
import Derived.Test.YtnobhkmpkichdaaGreatPFnExactWidthx4
import Derived.Test.YtnobhkmpkichdaaGreatPFnExactWidthx5
import Derived.Test.YtnobhkmpkichdaaGreatPFnExactWidthx6
import Derived.Test.YtnobhkmpkichdaaGreatPFnExactWidthx7
import Derived.Test.YtnobhkmpkichdaaGreatPFnExactWidthx8
import Derived.Test.YtnobhkmpkichdaaGreatPFnExactWidthx9
import Derived.Test.YtnobhkmpkichdaaGreatPFnExactWidthx10
import Derived.Test.YtnobhkmpkichdaaGreatPFnExactWidthx11
import Derived.Test.YtnobhkmpkichdaaGreatPFnExactWidthx12
import Derived.Test.YtnobhkmpkichdaaGreatPFnExactWidthx13
import Derived.Test.YtnobhkmpkichdaaGreatPFnExactWidthx14
import Derived.Test.YtnobhkmpkichdaaGreatPFnExactWidthx15
import Derived.Test.YtnobhkmpkichdaaGreatPFnExactWidthx16
import Derived.Test.YtnobhkmpkichdaaGreatPFnExactWidthx17
import Derived.Test.YtnobhkmpkichdaaGreatPFnExactWidthx18
import Derived.Test.YtnobhkmpkichdaaGreatPFnExactWidthx19
import Derived.Test.YtnobhkmpkichdaaGreatPFnExactWidthx20
import Derived.Test.YtnobhkmpkichdaaGreatPFnExactWidthx21
import Derived.Test.YtnobhkmpkichdaaGreatOpen
import Derived.Test.YtnobhkmpkichdaaGreatZFnExactWidth
namespace Go.Proofs.YtnobhkmpkichdaaGreat.PFnExactWidth
open Go.RowKit Go.Proofs.YtnobhkmpkichdaaGreatW.PrintWords Go.Proofs.YtnobhkmpkichdaaGreatW.PrintLast Go.Proofs.YtnobhkmpkichdaaGreatW.PrintMore Go.Proofs.YtnobhkmpkichdaaGreatOpen Go.Proofs.YtnobhkmpkichdaaGreat.ZFnExactWidth
set_option linter.unusedVariables false
set_option linter.unusedSimpArgs false
theorem szValue_is (a b : Int) (s : ByteArray) (l : Int) (h0 : 0 ≤ l) (h1 : l ≤ 1048576) (hs : s.size ≤ 9223372036854775807) : laws_szValue.f a b s l = some (lft l s.size) := by
  unfold laws_szValue.f
  rw [wrap_id (x := l - (s.size : Int)) (by omega) (by omega)]
  by_cases h : l - (s.size : Int) < 0
  · rw [if_pos h, lft_of_gt (by omega)]
  · rw [if_neg h, lft_of_le (by omega)]
def wtV (x : S24) : Nat := x.f2.size
def wtVS (l : List S24) : Nat := l.length + (l.map wtV).sum
theorem szValueS_is (xs : List S24) (hn : xs.length ≤ 9223372036854775807) (hx : ∀ x ∈ xs, x.f2.size ≤ 9223372036854775807) (l : Int) (h0 : 0 ≤ l) (h1 : l ≤ 1048576) : Ev (fun k => laws_szValueS.f k xs l) (lft l (wtVS xs)) :=
  sz_list z24 laws_szValueS.f laws_szValueS.l0 (fun _ x l => laws_szValue.f x.f0 x.f1 x.f2 l) wtV (fun _ _ _ => rfl) (fun _ _ _ _ => rfl) xs hn (fun x hx' l h0 h1 => ev_some fun _ => szValue_is _ _ _ l h0 h1 (hx x hx')) l h0 h1
def toV (x : S24) : S36 := ⟨x.f0, x.f1, x.f2⟩
theorem toValueS_is (xs : List S24) (hn : xs.length ≤ 8796093022208) : Ev (fun k => laws_toValueS.f k xs) (xs.map toV) :=
  map_list z24 z36 laws_toValueS.f laws_toValueS.l0 (fun _ x => laws_toValue.f x.f0 x.f1 x.f2) (fun bt => (⟨bt.1, bt.2.1, bt.2.2⟩ : S36)) (fun x => (x.f0, x.f1, x.f2)) 8796093022208 (fun _ _ => rfl) (fun _ _ _ _ => rfl) xs hn (by omega) (fun x _ => ev_some fun _ => rfl)
theorem eqValue_refl (a b : Int) (s : ByteArray) : laws_eqValue.f a b s a b s = some true := by simp [laws_eqValue.f]
theorem eqValueS_refl (xs : List S36) (hn : xs.length ≤ 9223372036854775807) : Ev (fun k => laws_eqValueS.f k xs xs) true :=
  eq_list z36 laws_eqValueS.f laws_eqValueS.l0 (fun _ x y => laws_eqValue.f x.f0 x.f1 x.f2 y.f0 y.f1 y.f2) (fun _ _ _ => rfl) (fun _ _ _ _ => rfl) xs hn (fun x _ => ev_some fun _ => eqValue_refl _ _ _)
def wtC (x : S136) : Nat := wtVS x.f0
def wtCS (l : List S136) : Nat := l.length + (l.map wtC).sum
def okC (x : S136) : Prop := x.f0.length ≤ 9223372036854775807 ∧ ∀ y ∈ x.f0, y.f2.size ≤ 9223372036854775807
theorem szCounted_is (a : List S24) (n : Int) (hn : a.length ≤ 9223372036854775807) (hx : ∀ x ∈ a, x.f2.size ≤ 9223372036854775807) (l : Int) (h0 : 0 ≤ l) (h1 : l ≤ 1048576) : Ev (fun k => laws_szCounted.f k a n l) (lft l (wtVS a)) := by
  refine Ev.congr (fun k => rfl) (Ev.bind (szValueS_is a hn hx l h0 h1) (f := fun k t => if t < 0 then some (-1) else some t) ?_)
  by_cases h : (wtVS a : Int) ≤ l
  · exact ev_if_neg (by rw [lft_of_le h]; omega) (ev_some fun _ => rfl)
  · rw [lft_of_gt h]
    exact ev_if_pos (by omega) (ev_some fun _ => rfl)
theorem szCountedS_is (xs : List S136) (hn : xs.length ≤ 9223372036854775807) (hx : ∀ x ∈ xs, okC x) (l : Int) (h0 : 0 ≤ l) (h1 : l ≤ 1048576) : Ev (fun k => laws_szCountedS.f k xs l) (lft l (wtCS xs)) :=
  sz_list z136 laws_szCountedS.f laws_szCountedS.l0 (fun k x l => laws_szCounted.f k x.f0 x.f1 l) wtC (fun _ _ _ => rfl) (fun _ _ _ _ => rfl) xs hn (fun x hx' l h0 h1 => szCounted_is _ _ (hx x hx').1 (hx x hx').2 l h0 h1) l h0 h1
theorem szBag_is (w : Int) (xs : List S136) (hn : xs.length ≤ 9223372036854775807) (hx : ∀ x ∈ xs, okC x) (l : Int) (h0 : 0 ≤ l) (h1 : l ≤ 1048576) : Ev (fun k => laws_szBag.f k w xs l) (lft l (wtCS xs)) := by
  refine Ev.congr (fun k => rfl) (Ev.bind (szCountedS_is xs hn hx l h0 h1) (f := fun k t => if t < 0 then some (-1) else some t) ?_)
  by_cases h : (wtCS xs : Int) ≤ l
  · exact ev_if_neg (by rw [lft_of_le h]; omega) (ev_some fun _ => rfl)
  · rw [lft_of_gt h]
    exact ev_if_pos (by omega) (ev_some fun _ => rfl)
theorem sum_le_of_mem {α : Type} (f : α → Nat) {l : List α} {x : α} (h : x ∈ l) : f x ≤ (l.map f).sum := by
  induction l with
  | nil => cases h
  | cons a l ih =>
    rw [List.map_cons, List.sum_cons]
    rcases List.mem_cons.1 h with rfl | h
    · omega
    · have := ih h
      omega
def toC (x : S136) : S126 := ⟨x.f0.map toV, x.f1⟩
theorem toCounted_is (a : List S24) (n : Int) (hn : a.length ≤ 8796093022208) : Ev (fun k => laws_toCounted.f k a n) (a.map toV, n) :=
  Ev.bind (toValueS_is a hn) (f := fun k t => some (t, n)) (ev_some fun _ => rfl)
theorem toCountedS_is (xs : List S136) (hn : xs.length ≤ 8796093022208) (hx : ∀ x ∈ xs, x.f0.length ≤ 8796093022208) : Ev (fun k => laws_toCountedS.f k xs) (xs.map toC) :=
  map_list z136 z126 laws_toCountedS.f laws_toCountedS.l0 (fun k x => laws_toCounted.f k x.f0 x.f1) (fun bt => (⟨bt.1, bt.2⟩ : S126)) (fun x => (x.f0.map toV, x.f1)) 8796093022208 (fun _ _ => rfl) (fun _ _ _ _ => rfl) xs hn (by omega) (fun x h => toCounted_is _ _ (hx x h))
theorem toBag_is (w : Int) (xs : List S136) (hn : xs.length ≤ 8796093022208) (hx : ∀ x ∈ xs, x.f0.length ≤ 8796093022208) : Ev (fun k => laws_toBag.f k w xs) (w, xs.map toC) :=
  Ev.bind (toCountedS_is xs hn hx) (f := fun k t => some (w, t)) (ev_some fun _ => rfl)
theorem eqCounted_refl (a : List S36) (n : Int) (hn : a.length ≤ 9223372036854775807) : Ev (fun k => laws_eqCounted.f k a n a n) true := by
  refine Ev.congr (fun k => rfl) (Ev.bind (eqValueS_refl a hn) (f := fun k t => if t = true then (if n = n then some true else some false) else some false) ?_)
  exact ev_some fun _ => by simp
theorem eqCountedS_refl (xs : List S126) (hn : xs.length ≤ 9223372036854775807) (hx : ∀ x ∈ xs, x.f0.length ≤ 9223372036854775807) : Ev (fun k => laws_eqCountedS.f k xs xs) true :=
  eq_list z126 laws_eqCountedS.f laws_eqCountedS.l0 (fun k x y => laws_eqCounted.f k x.f0 x.f1 y.f0 y.f1) (fun _ _ _ => rfl) (fun _ _ _ _ => rfl) xs hn (fun x h => eqCounted_refl _ _ (hx x h))
theorem eqBag_refl (w : Int) (xs : List S126) (hn : xs.length ≤ 9223372036854775807) (hx : ∀ x ∈ xs, x.f0.length ≤ 9223372036854775807) : Ev (fun k => laws_eqBag.f k w xs w xs) true := by
  refine Ev.congr (fun k => if_pos rfl) (Ev.bind (eqCountedS_refl xs hn hx) (f := fun k t => if t = true then some true else some false) ?_)
  exact ev_some fun _ => by simp
theorem toC_len {xs : List S136} {n : Nat} (h : ∀ x ∈ xs, x.f0.length ≤ n) : ∀ x ∈ xs.map toC, x.f0.length ≤ n := by
  intro y hy
  obtain ⟨x, hx, rfl⟩ := List.mem_map.1 hy
  simpa [toC] using h x hx
def okV (a b : Int) (s : List UInt8) : Bool := if a = 0 then (b == 0 && s.isEmpty) else if a = 1 then s.isEmpty else if a = 2 then (decide (0 ≤ b ∧ b ≤ 1) && s.isEmpty) else if a = 3 then (b == 0 && decide (s.length ≤ 100)) else false
theorem specValueOk_is (a b : Int) (s : ByteArray) : spec_ValueOk.f a b s = some (okV a b s.data.toList) := by
  unfold spec_ValueOk.f okV spec_l01In.f
  have he : (s.toList == ([] : List UInt8)) = s.data.toList.isEmpty := by rw [toList_data]; cases s.data.toList <;> rfl
  rw [he, size_data]
  by_cases h0 : a = 0
  · by_cases hb : b = 0 <;> simp [h0, hb]
  · by_cases h1 : a = 1
    · simp [h1]
    · by_cases h2 : a = 2
      · by_cases hb : 0 ≤ b
        · by_cases hb' : b ≤ 1 <;> simp [h2, hb, hb']
        · simp [h2, hb]
      · by_cases h3 : a = 3
        · by_cases hb : b = 0
          · simp [h3, hb]
            omega
          · simp [h3, hb]
        · simp [h0, h1, h2, h3]
theorem implValueOk_is (a b : Int) (s : ByteArray) : impl_ValueOk.f a b s = some (okV a b s.data.toList) := specValueOk_is a b s
def wtR (x : S59) : Nat := x.f0.size + wtCS x.f1.f1
def wtRS (l : List S59) : Nat := l.length + (l.map wtR).sum
def okR (x : S59) : Prop := x.f0.size ≤ 9223372036854775807 ∧ x.f1.f1.length ≤ 9223372036854775807 ∧ ∀ y ∈ x.f1.f1, okC y
theorem szRel_is (a : ByteArray) (w : Int) (xs : List S136) (ha : a.size ≤ 9223372036854775807) (hn : xs.length ≤ 9223372036854775807) (hx : ∀ x ∈ xs, okC x) (l : Int) (h0 : 0 ≤ l) (h1 : l ≤ 1048576) : Ev (fun k => laws_szRel.f k a w xs l) (lft l (a.size + wtCS xs)) := by
  unfold laws_szRel.f
  rw [wrap_id (x := l - (a.size : Int)) (by omega) (by omega)]
  by_cases h : l - (a.size : Int) < 0
  · exact ev_if_pos h (ev_conv (ev_some fun _ => rfl) (lft_of_gt (by omega)).symm)
  · refine ev_if_neg h (Ev.bind (szBag_is w xs hn hx _ (by omega) (by omega)) ?_)
    by_cases g : (wtCS xs : Int) ≤ l - (a.size : Int)
    · rw [lft_of_le g, lft_of_le (by omega)]
      exact ev_if_neg (by omega) (ev_some fun _ => by congr 1; omega)
    · rw [lft_of_gt g, lft_of_gt (by omega)]
      exact ev_if_pos (by omega) (ev_some fun _ => rfl)
theorem szRelS_is (xs : List S59) (hn : xs.length ≤ 9223372036854775807) (hx : ∀ x ∈ xs, okR x) (l : Int) (h0 : 0 ≤ l) (h1 : l ≤ 1048576) : Ev (fun k => laws_szRelS.f k xs l) (lft l (wtRS xs)) :=
  sz_list z59 laws_szRelS.f laws_szRelS.l0 (fun k x l => laws_szRel.f k x.f0 x.f1.f0 x.f1.f1 l) wtR (fun _ _ _ => rfl) (fun _ _ _ _ => rfl) xs hn (fun x hx' l h0 h1 => szRel_is _ _ _ (hx x hx').1 (hx x hx').2.1 (hx x hx').2.2 l h0 h1) l h0 h1
theorem rel_bounds {xs : List S59} {l : Int} (h : (wtRS xs : Int) ≤ l) (hl : l ≤ 1048576) : xs.length ≤ 1048576 ∧ ∀ x ∈ xs, x.f1.f1.length ≤ 1048576 ∧ ∀ y ∈ x.f1.f1, y.f0.length ≤ 1048576 := by
  unfold wtRS at h
  refine ⟨by omega, fun x hx => ?_⟩
  have h1 := sum_le_of_mem wtR hx
  have h2 : wtCS x.f1.f1 ≤ wtR x := Nat.le_add_left _ _
  have h3 : (wtCS x.f1.f1 : Int) ≤ l := by omega
  unfold wtCS at h3
  refine ⟨by omega, fun y hy => ?_⟩
  have h4 := sum_le_of_mem wtC hy
  have h5 : y.f0.length ≤ wtC y := by unfold wtC wtVS; omega
  omega
def toR (x : S59) : S68 := ⟨x.f0, ⟨x.f1.f0, x.f1.f1.map toC⟩⟩
theorem toRelS_is (xs : List S59) (hn : xs.length ≤ 5864062014805) (hx : ∀ x ∈ xs, x.f1.f1.length ≤ 1048576 ∧ ∀ y ∈ x.f1.f1, y.f0.length ≤ 1048576) : Ev (fun k => laws_toRelS.f k xs) (xs.map toR) :=
  map_list z59 z68 laws_toRelS.f laws_toRelS.l0 (fun k x => laws_toRel.f k x.f0 x.f1.f0 x.f1.f1) (fun bt => (⟨bt.1, (⟨bt.2.1, bt.2.2⟩ : S66)⟩ : S68)) (fun x => (x.f0, x.f1.f0, x.f1.f1.map toC)) 5864062014805 (fun _ _ => rfl) (fun _ _ _ _ => rfl) xs hn (by omega) (fun x h => Ev.bind (toBag_is _ _ (by have := (hx x h).1; omega) (fun y hy => by have := (hx x h).2 y hy; omega)) (ev_some fun _ => rfl))
theorem eqRel_refl (a : ByteArray) (w : Int) (xs : List S126) (hn : xs.length ≤ 9223372036854775807) (hx : ∀ x ∈ xs, x.f0.length ≤ 9223372036854775807) : Ev (fun k => laws_eqRel.f k a w xs a w xs) true := by
  refine Ev.congr (fun k => if_pos rfl) (Ev.bind (eqBag_refl w xs hn hx) (f := fun k t => if t = true then some true else some false) ?_)
  exact ev_some fun _ => by simp
theorem eqRelS_refl (xs : List S68) (hn : xs.length ≤ 9223372036854775807) (hx : ∀ x ∈ xs, x.f1.f1.length ≤ 9223372036854775807 ∧ ∀ y ∈ x.f1.f1, y.f0.length ≤ 9223372036854775807) : Ev (fun k => laws_eqRelS.f k xs xs) true :=
  eq_list z68 laws_eqRelS.f laws_eqRelS.l0 (fun k x y => laws_eqRel.f k x.f0 x.f1.f0 x.f1.f1 y.f0 y.f1.f0 y.f1.f1) (fun _ _ _ => rfl) (fun _ _ _ _ => rfl) xs hn (fun x h => eqRel_refl _ _ _ (hx x h).1 (hx x h).2)
theorem toR_len {xs : List S59} (h : ∀ x ∈ xs, x.f1.f1.length ≤ 1048576 ∧ ∀ y ∈ x.f1.f1, y.f0.length ≤ 1048576) : ∀ x ∈ xs.map toR, x.f1.f1.length ≤ 9223372036854775807 ∧ ∀ y ∈ x.f1.f1, y.f0.length ≤ 9223372036854775807 := by
  intro y hy
  obtain ⟨x, hx, rfl⟩ := List.mem_map.1 hy
  refine ⟨by have := (h x hx).1; simp [toR]; omega, toC_len fun z hz => by have := (h x hx).2 z hz; omega⟩
def okEN : Nat → S27 → Prop
  | 0, _ => False
  | n + 1, x => x.f2.f2.size ≤ 9223372036854775807 ∧ x.f3.size ≤ 9223372036854775807 ∧ x.f4.length ≤ 9223372036854775807 ∧ ∀ y ∈ x.f4, okEN n y
def wtEN : Nat → S27 → Nat
  | 0, _ => 0
  | n + 1, x => x.f2.f2.size + (x.f3.size + (x.f4.length + (x.f4.map (wtEN n)).sum))
theorem szExp_is : ∀ (n : Nat) (x : S27), okEN n x → ∃ K, ∀ k, K ≤ k → ∀ l, 0 ≤ l → l ≤ 1048576 → laws_szExp.f k x.f0 x.f1 x.f2.f0 x.f2.f1 x.f2.f2 x.f3 x.f4 l = some (lft l (wtEN n x))
  | 0, _, h => h.elim
  | n + 1, x, h => by
    obtain ⟨h1, h2, h3, h4⟩ := h
    obtain ⟨K, hK⟩ := ev_all (xs := x.f4) (P := fun k y => ∀ l, 0 ≤ l → l ≤ 1048576 → laws_szExp.f k y.f0 y.f1 y.f2.f0 y.f2.f1 y.f2.f2 y.f3 y.f4 l = some (lft l (wtEN n y))) fun y hy => szExp_is n y (h4 y hy)
    refine ⟨max K (x.f4.length + 1) + 1, fun k hk l h0 h5 => ?_⟩
    obtain ⟨k, rfl⟩ : ∃ m, k = m + 1 := ⟨k - 1, by omega⟩
    show (laws_szValue.f _ _ _ l).bind _ = _
    rw [szValue_is _ _ _ l h0 h5 h1, Option.bind_some]
    by_cases a : (x.f2.f2.size : Int) ≤ l
    · rw [lft_of_le a, if_neg (by omega), wrap_id (x := l - (x.f2.f2.size : Int) - (x.f3.size : Int)) (by omega) (by omega)]
      by_cases b : l - (x.f2.f2.size : Int) - (x.f3.size : Int) < 0
      · rw [if_pos b, lft_of_gt (by unfold wtEN; omega)]
      · rw [if_neg b, szk_list z27 (laws_szExpS.f (laws_szExp.f k)) (laws_szExpS.l0 (laws_szExp.f k)) (fun y l => laws_szExp.f k y.f0 y.f1 y.f2.f0 y.f2.f1 y.f2.f2 y.f3 y.f4 l) (wtEN n) (fun _ _ _ => rfl) (fun _ _ _ _ => rfl) x.f4 h3 (fun y hy l a b => hK k (by omega) y hy l a b) k (by omega) _ (by omega) (by omega), Option.bind_some]
        by_cases c : ((x.f4.length + (x.f4.map (wtEN n)).sum : Nat) : Int) ≤ l - (x.f2.f2.size : Int) - (x.f3.size : Int)
        · rw [lft_of_le c, if_neg (by omega), lft_of_le (by unfold wtEN; omega)]
          congr 1
          unfold wtEN
          omega
        · rw [lft_of_gt c, if_pos (by omega), lft_of_gt (by unfold wtEN; omega)]
    · rw [lft_of_gt a, if_pos (by omega), lft_of_gt (by unfold wtEN; omega)]
theorem wtE_kid {n : Nat} {x y : S27} {b : Nat} (h : wtEN (n + 1) x ≤ b) (hy : y ∈ x.f4) : wtEN n y ≤ b := by
  have := sum_le_of_mem0 (wtEN n) hy
  unfold wtEN at h
  omega
theorem wtE_len {n : Nat} {x : S27} {b : Nat} (h : wtEN (n + 1) x ≤ b) : x.f4.length ≤ b := by
  unfold wtEN at h
  omega
def toEN : Nat → S27 → S39
  | 0, _ => z39
  | n + 1, x => ⟨x.f0, x.f1, ⟨x.f2.f0, x.f2.f1, x.f2.f2⟩, x.f3, x.f4.map (toEN n)⟩
theorem toExp_is : ∀ (n : Nat) (x : S27), okEN n x → wtEN n x ≤ 1048576 → ∃ K, ∀ k, K ≤ k → laws_toExp.f k x.f0 x.f1 x.f2.f0 x.f2.f1 x.f2.f2 x.f3 x.f4 = some ((toEN n x).f0, (toEN n x).f1, (toEN n x).f2.f0, (toEN n x).f2.f1, (toEN n x).f2.f2, (toEN n x).f3, (toEN n x).f4)
  | 0, _, h, _ => h.elim
  | n + 1, x, h, hw => by
    obtain ⟨_, _, _, h4⟩ := h
    have hl := wtE_len hw
    obtain ⟨K, hK⟩ := ev_all (xs := x.f4) (P := fun k y => laws_toExp.f k y.f0 y.f1 y.f2.f0 y.f2.f1 y.f2.f2 y.f3 y.f4 = some ((toEN n y).f0, (toEN n y).f1, (toEN n y).f2.f0, (toEN n y).f2.f1, (toEN n y).f2.f2, (toEN n y).f3, (toEN n y).f4)) fun y hy => toExp_is n y (h4 y hy) (wtE_kid hw hy)
    refine ⟨max K (x.f4.length + 1) + 1, fun k hk => ?_⟩
    obtain ⟨k, rfl⟩ : ∃ m, k = m + 1 := ⟨k - 1, by omega⟩
    show ((laws_toExpS.f (laws_toExp.f k) k x.f4).bind _) = _
    rw [mapk_list z27 z39 (laws_toExpS.f (laws_toExp.f k)) (laws_toExpS.l0 (laws_toExp.f k)) (fun y => laws_toExp.f k y.f0 y.f1 y.f2.f0 y.f2.f1 y.f2.f2 y.f3 y.f4) (fun bt => (⟨bt.1, bt.2.1, (⟨bt.2.2.1, bt.2.2.2.1, bt.2.2.2.2.1⟩ : S36), bt.2.2.2.2.2.1, bt.2.2.2.2.2.2⟩ : S39)) (fun y => ((toEN n y).f0, (toEN n y).f1, (toEN n y).f2.f0, (toEN n y).f2.f1, (toEN n y).f2.f2, (toEN n y).f3, (toEN n y).f4)) 3198579280802 (fun _ _ => rfl) (fun _ _ _ _ => rfl) x.f4 (by omega) (by omega) (fun y hy => hK k (by omega) y hy) k (by omega), Option.bind_some]
    have e : toEN (n + 1) x = ⟨x.f0, x.f1, ⟨x.f2.f0, x.f2.f1, x.f2.f2⟩, x.f3, x.f4.map (toEN n)⟩ := by simp only [toEN]
    rw [e]
    have hm : ∀ y : S39, (⟨y.f0, y.f1, (⟨y.f2.f0, y.f2.f1, y.f2.f2⟩ : S36), y.f3, y.f4⟩ : S39) = y := fun y => by cases y; rfl
    exact congrArg (fun l => some (x.f0, x.f1, x.f2.f0, x.f2.f1, x.f2.f2, x.f3, l)) (List.map_congr_left fun y _ => hm (toEN n y))
def shortI : Nat → S39 → Prop
  | 0, _ => True
  | m + 1, y => y.f4.length ≤ 1048576 ∧ ∀ z ∈ y.f4, shortI m z
theorem short_z : ∀ m, shortI m z39
  | 0 => trivial
  | _ + 1 => ⟨by simp [z39], fun z hz => by simp [z39] at hz⟩
theorem toE_short : ∀ (n m : Nat) (x : S27), wtEN n x ≤ 1048576 → shortI m (toEN n x)
  | 0, m, _, _ => short_z m
  | _ + 1, 0, _, _ => trivial
  | n + 1, m + 1, x, h => by
    refine ⟨?_, fun z hz => ?_⟩
    · show (x.f4.map (toEN n)).length ≤ 1048576
      rw [List.length_map]
      exact wtE_len h
    · obtain ⟨u, hu, rfl⟩ := List.mem_map.1 hz
      exact toE_short n m u (wtE_kid h hu)
theorem eqExp_refl : ∀ (n : Nat) (x : S27), okEN n x → wtEN n x ≤ 1048576 → ∃ K, ∀ k, K ≤ k → laws_eqExp.f k (toEN n x).f0 (toEN n x).f1 (toEN n x).f2.f0 (toEN n x).f2.f1 (toEN n x).f2.f2 (toEN n x).f3 (toEN n x).f4 (toEN n x).f0 (toEN n x).f1 (toEN n x).f2.f0 (toEN n x).f2.f1 (toEN n x).f2.f2 (toEN n x).f3 (toEN n x).f4 = some true
  | 0, _, h, _ => h.elim
  | n + 1, x, h, hw => by
    obtain ⟨_, _, _, h4⟩ := h
    have hl := wtE_len hw
    obtain ⟨K, hK⟩ := ev_all (xs := x.f4) (P := fun k y => laws_eqExp.f k (toEN n y).f0 (toEN n y).f1 (toEN n y).f2.f0 (toEN n y).f2.f1 (toEN n y).f2.f2 (toEN n y).f3 (toEN n y).f4 (toEN n y).f0 (toEN n y).f1 (toEN n y).f2.f0 (toEN n y).f2.f1 (toEN n y).f2.f2 (toEN n y).f3 (toEN n y).f4 = some true) fun y hy => eqExp_refl n y (h4 y hy) (wtE_kid hw hy)
    refine ⟨max K (x.f4.length + 1) + 1, fun k hk => ?_⟩
    obtain ⟨k, rfl⟩ : ∃ m, k = m + 1 := ⟨k - 1, by omega⟩
    have e := eqk_list z39 (laws_eqExpS.f (laws_eqExp.f k)) (laws_eqExpS.l0 (laws_eqExp.f k)) (fun y z => laws_eqExp.f k y.f0 y.f1 y.f2.f0 y.f2.f1 y.f2.f2 y.f3 y.f4 z.f0 z.f1 z.f2.f0 z.f2.f1 z.f2.f2 z.f3 z.f4) (fun _ _ _ => rfl) (fun _ _ _ _ => rfl) (x.f4.map (toEN n)) (by rw [List.length_map]; omega) (fun y hy => by
      obtain ⟨u, hu, rfl⟩ := List.mem_map.1 hy
      exact hK k (by omega) u hu) k (by rw [List.length_map]; omega)
    simp [laws_eqExp.f, laws_eqValue.f, toEN, e]
theorem l03Has_is (xs : List ByteArray) (s : ByteArray) (hn : xs.length ≤ 9223372036854775807) : Ev (fun k => spec_l03Has.f k xs s) (xs.any fun x => x.toList == s.toList) := by
  have h : ∀ (n i : Nat), xs.length - i = n → i ≤ xs.length → Ev (fun k => spec_l03Has.l0 k xs s (i : Int)) ((xs.drop i).any fun x => x.toList == s.toList) := by
    intro n
    induction n with
    | zero =>
      intro i h1 h2
      refine Ev.step (fun k => rfl) (ev_if_neg (by omega) (ev_conv (ev_some fun _ => rfl) ?_))
      rw [show i = xs.length by omega, List.drop_length]
      rfl
    | succ n ih =>
      intro i h1 h2
      have hi : i < xs.length := by omega
      refine Ev.step (fun k => rfl) (ev_if_pos (by omega) (ev_if_pos (by omega) ?_))
      rw [drop_cons_getD ByteArray.empty hi, List.any_cons]
      show Ev (fun k => if (xs.getD (i : Int).toNat ByteArray.empty).toList = s.toList then some true else spec_l03Has.l0 k xs s (wrap64 ((i : Int) + 1))) _
      rw [Int.toNat_natCast]
      by_cases e : (xs.getD i ByteArray.empty).toList = s.toList
      · exact ev_if_pos e (ev_conv (ev_some fun _ => rfl) (by rw [e]; simp))
      · refine ev_if_neg e ?_
        rw [wrap_succ hi hn]
        exact ev_conv (ih (i + 1) (by omega) (by omega)) (by rw [show ((xs.getD i ByteArray.empty).toList == s.toList) = false from beq_eq_false_iff_ne.mpr e, Bool.false_or])
  exact ev_conv (h xs.length 0 (by omega) (by omega)) (by rw [List.drop_zero])
theorem containsS_is (xs : List ByteArray) (s : ByteArray) (hn : xs.length ≤ 9223372036854775807) : Ev (fun k => slices_Contains_string_string.f k xs s) (xs.any fun x => x.toList == s.toList) := by
  have h : ∀ (n i : Nat), xs.length - i = n → i ≤ xs.length → ∃ j, Ev (fun k => slices_Index_string_string.l0 k xs s (xs.length : Int) (i : Int)) j ∧ decide (j ≥ 0) = (xs.drop i).any fun x => x.toList == s.toList := by
    intro n
    induction n with
    | zero =>
      intro i h1 h2
      refine ⟨-1, Ev.step (fun k => rfl) (ev_if_neg (by omega) (ev_some fun _ => rfl)), ?_⟩
      rw [show i = xs.length by omega, List.drop_length]
      rfl
    | succ n ih =>
      intro i h1 h2
      have hi : i < xs.length := by omega
      by_cases e : s.toList = (xs.getD i ByteArray.empty).toList
      · refine ⟨i, Ev.step (fun k => rfl) (ev_if_pos (by omega) (ev_if_pos (by omega) (ev_if_pos (by omega) ?_))), ?_⟩
        · show Ev (fun k => if s.toList = (xs.getD (i : Int).toNat ByteArray.empty).toList then some (i : Int) else slices_Index_string_string.l0 k xs s (xs.length : Int) (wrap64 ((i : Int) + 1))) _
          rw [Int.toNat_natCast]
          exact ev_if_pos e (ev_some fun _ => rfl)
        · rw [drop_cons_getD ByteArray.empty hi, List.any_cons]
          rw [← e]
          simp
      · obtain ⟨j, hj, hd⟩ := ih (i + 1) (by omega) (by omega)
        refine ⟨j, Ev.step (fun k => rfl) (ev_if_pos (by omega) (ev_if_pos (by omega) (ev_if_pos (by omega) ?_))), ?_⟩
        · show Ev (fun k => if s.toList = (xs.getD (i : Int).toNat ByteArray.empty).toList then some (i : Int) else slices_Index_string_string.l0 k xs s (xs.length : Int) (wrap64 ((i : Int) + 1))) _
          rw [Int.toNat_natCast, wrap_succ hi hn]
          exact ev_if_neg e hj
        · rw [hd, drop_cons_getD ByteArray.empty hi, List.any_cons]
          rw [show ((xs.getD i ByteArray.empty).toList == s.toList) = false from beq_eq_false_iff_ne.mpr fun h => e h.symm, Bool.false_or]
  obtain ⟨j, hj, hd⟩ := h xs.length 0 (by omega) (by omega)
  rw [List.drop_zero] at hd
  exact Ev.congr (fun k => rfl) (Ev.bind hj (f := fun k t => some (decide (t ≥ 0))) (ev_conv (ev_some fun _ => rfl) hd))
def opsL : List ByteArray := [(⟨#[43]⟩ : ByteArray), (⟨#[45]⟩ : ByteArray), (⟨#[42]⟩ : ByteArray), (⟨#[47]⟩ : ByteArray), (⟨#[61]⟩ : ByteArray), (⟨#[60]⟩ : ByteArray), (⟨#[126]⟩ : ByteArray), (⟨#[97, 110, 100]⟩ : ByteArray), (⟨#[111, 114]⟩ : ByteArray)]
def isOpB (op : ByteArray) : Bool := opsL.any fun x => x.toList == op.toList
def locE (a n v0 v1 : Int) (v2 op : ByteArray) (c : Nat) : Bool :=
  if a = 0 then decide (0 ≤ n ∧ n ≤ 11) && nullB v0 v1 v2 && (op.toList == ([] : List UInt8)) && c == 0
  else if a = 1 then okV v0 v1 v2.data.toList && (n == 0) && (op.toList == ([] : List UInt8)) && c == 0
  else if a = 2 then isOpB op && (n == 0) && nullB v0 v1 v2 && c == 2
  else if a = 3 ∨ a = 4 then (n == 0) && nullB v0 v1 v2 && (op.toList == ([] : List UInt8)) && c == 1
  else false
def okE : Nat → S39 → Bool
  | 0, _ => false
  | m + 1, y => locE y.f0 y.f1 y.f2.f0 y.f2.f1 y.f2.f2 y.f3 y.f4.length && y.f4.all (okE m)
theorem isColumn_is (n : Int) : impl_isColumn.f n = some (decide (0 ≤ n ∧ n ≤ 11)) := by
  unfold impl_isColumn.f impl_within.f
  by_cases h : 0 ≤ n <;> simp [h]
theorem isOp_is (op : ByteArray) : Ev (fun k => impl_isOp.f k op) (isOpB op) :=
  Ev.congr (fun k => rfl) (Ev.bind (containsS_is opsL op (by decide)) (f := fun k t => some t) (ev_some fun _ => rfl))
theorem allO_evs {α : Type} {f : Nat → α → Option Bool} {g : α → Bool} : ∀ {xs : List α}, (∀ x ∈ xs, Ev (fun k => f k x) (g x)) → Ev (fun k => allO (f k) xs) (xs.all g)
  | [], _ => ev_some fun _ => rfl
  | x :: xs, h => by
    refine Ev.congr (fun k => rfl) (Ev.bind (h x (by simp)) (f := fun k t => if t = true then allO (f k) xs else some false) ?_)
    cases hx : g x with
    | true => exact ev_if_pos rfl (ev_conv (allO_evs fun y hy => h y (by simp [hy])) (by simp [hx]))
    | false => exact ev_if_neg (by simp) (ev_conv (ev_some fun _ => rfl) (by simp [hx]))
theorem loc_end (b : Bool) (c : Nat) (kn : Int) (m : Nat) (h : kn = m) : (if b = true then decide ((c : Int) = kn) else false) = (b && c == m) := by
  subst h
  cases b with
  | false => rfl
  | true =>
    rw [if_pos rfl, Bool.true_and, Bool.eq_iff_iff, decide_eq_true_iff, beq_iff_eq]
    omega
theorem isExpS_is (a n v0 v1 : Int) (v2 op : ByteArray) : ∃ kn rt, Ev (fun k => isExpS k a n v0 v1 v2 op) (kn, rt) ∧ ∀ c : Nat, (if rt = true then decide ((c : Int) = kn) else false) = locE a n v0 v1 v2 op c := by
  unfold isExpS locE
  by_cases a0 : a = 0
  · exact ⟨0, _, ev_if_pos a0 (ev_bind0 (isColumn_is n) (ev_some fun _ => rfl)), fun c => by rw [if_pos a0]; exact loc_end _ c 0 0 rfl⟩
  by_cases a1 : a = 1
  · exact ⟨0, _, ev_if_neg a0 (ev_if_pos a1 (ev_bind0 (implValueOk_is v0 v1 v2) (ev_some fun _ => rfl))), fun c => by rw [if_neg a0, if_pos a1]; exact loc_end _ c 0 0 rfl⟩
  by_cases a2 : a = 2
  · exact ⟨2, _, ev_if_neg a0 (ev_if_neg a1 (ev_if_pos a2 (Ev.bind (isOp_is op) (ev_some fun _ => rfl)))), fun c => by rw [if_neg a0, if_neg a1, if_pos a2]; exact loc_end _ c 2 2 rfl⟩
  by_cases a3 : a = 3 ∨ a = 4
  · exact ⟨1, _, ev_if_neg a0 (ev_if_neg a1 (ev_if_neg a2 (ev_if_pos a3 (ev_some fun _ => rfl)))), fun c => by rw [if_neg a0, if_neg a1, if_neg a2, if_pos a3]; exact loc_end _ c 1 1 rfl⟩
  · exact ⟨0, false, ev_if_neg a0 (ev_if_neg a1 (ev_if_neg a2 (ev_if_neg a3 (ev_some fun _ => rfl)))), fun c => by simp [a0, a1, a2, a3]⟩
theorem impl_isExp_is : ∀ (m : Nat) (y : S39) (d : Int), m ≤ 13 → d = 13 - m → shortI m y → Ev (fun k => impl_isExp.f k y.f0 y.f1 y.f2.f0 y.f2.f1 y.f2.f2 y.f3 y.f4 d) (okE m y) := by
  intro m
  induction m with
  | zero =>
    intro y d hm hd _
    obtain ⟨kn, rt, hs, _⟩ := isExpS_is y.f0 y.f1 y.f2.f0 y.f2.f1 y.f2.f2 y.f3
    refine Ev.step (fun k => rfl) (Ev.bind hs ?_)
    cases rt with
    | false => exact ev_if_neg (by simp) (ev_some fun _ => rfl)
    | true => exact ev_if_pos rfl (ev_if_neg (by omega) (ev_some fun _ => rfl))
  | succ m ih =>
    intro y d hm hd hy
    obtain ⟨kn, rt, hs, hl⟩ := isExpS_is y.f0 y.f1 y.f2.f0 y.f2.f1 y.f2.f2 y.f3
    have hl := hl y.f4.length
    refine Ev.step (fun k => rfl) (Ev.bind hs ?_)
    cases rt with
    | false => exact ev_if_neg (by simp) (ev_conv (ev_some fun _ => rfl) (by simp only [okE]; rw [← hl]; simp))
    | true =>
      rw [if_pos rfl] at hl
      refine ev_if_pos rfl (ev_if_pos (by omega) ?_)
      by_cases e : (y.f4.length : Int) = kn
      · refine ev_if_pos e (ev_conv (allO_evs (g := okE m) fun x hx => ?_) (by simp only [okE]; rw [← hl]; simp [e]))
        rw [wrap_id (x := d + 1) (by omega) (by omega)]
        exact ih x (d + 1) (by omega) (by omega) (hy.2 x hx)
      · exact ev_if_neg e (ev_conv (ev_some fun _ => rfl) (by simp only [okE]; rw [← hl]; simp [e]))
theorem l03In_is (a b c : Int) : spec_l01In.f a b c = some (decide (b ≤ a ∧ a ≤ c)) := by
  unfold spec_l01In.f
  by_cases h : b ≤ a <;> simp [h]
theorem l03j_is (a n v0 v1 : Int) (v2 op : ByteArray) (l : List S39) (hl : l.length ≤ 1048576) : Ev (fun k => spec_l03Right.j1 k (if n = 0 then nullB v0 v1 v2 else false) a n v0 v1 v2 op l) (locE a n v0 v1 v2 op l.length) := by
  have hc0 : ((l.length : Int) == 0) = (l.length == 0) := by rw [Bool.eq_iff_iff, beq_iff_eq, beq_iff_eq]; omega
  have hc1 : ((l.length : Int) == 1) = (l.length == 1) := by rw [Bool.eq_iff_iff, beq_iff_eq, beq_iff_eq]; omega
  unfold locE
  by_cases a0 : a = 0
  · rw [if_pos a0]
    refine Ev.step (fun k => rfl) (ev_if_pos a0 (ev_bind0 (l03In_is n 0 11) ?_))
    cases decide (0 ≤ n ∧ n ≤ 11) with
    | false => exact ev_if_neg (by simp) (ev_conv (ev_some fun _ => rfl) (by simp))
    | true =>
      refine ev_if_pos rfl ?_
      cases hz : nullB v0 v1 v2 with
      | false => exact ev_if_neg (by have := hz; unfold nullB at this; rw [this]; simp) (ev_conv (ev_some fun _ => rfl) (by simp))
      | true =>
        refine ev_if_pos hz ?_
        by_cases e : op.toList = ([] : List UInt8)
        · exact ev_if_pos e (ev_conv (ev_some fun _ => rfl) (by rw [hc0]; simp [e]))
        · exact ev_if_neg e (ev_conv (ev_some fun _ => rfl) (by simp [e]))
  rw [if_neg a0]
  by_cases a1 : a = 1
  · rw [if_pos a1]
    refine Ev.step (fun k => rfl) (ev_if_neg a0 (ev_if_pos a1 (ev_bind0 (specValueOk_is v0 v1 v2) ?_)))
    cases okV v0 v1 v2.data.toList with
    | false => exact ev_if_neg (by simp) (ev_conv (ev_some fun _ => rfl) (by simp))
    | true =>
      refine ev_if_pos rfl ?_
      by_cases e0 : n = 0
      · refine ev_if_pos e0 ?_
        by_cases e : op.toList = ([] : List UInt8)
        · exact ev_if_pos e (ev_conv (ev_some fun _ => rfl) (by rw [hc0]; simp [e, e0]))
        · exact ev_if_neg e (ev_conv (ev_some fun _ => rfl) (by simp [e]))
      · exact ev_if_neg e0 (ev_conv (ev_some fun _ => rfl) (by simp [e0]))
  rw [if_neg a1]
  have hp : (if n = 0 then nullB v0 v1 v2 else false) = ((n == 0) && nullB v0 v1 v2) := by by_cases e : n = 0 <;> simp [e]
  rw [hp]
  by_cases a2 : a = 2
  · rw [if_pos a2]
    refine Ev.step (fun k => rfl) (ev_if_neg a0 (ev_if_neg a1 (ev_if_pos a2 ?_)))
    cases hq : ((n == 0) && nullB v0 v1 v2) with
    | false => exact ev_if_neg (by simp) (ev_conv (ev_some fun _ => rfl) (by rw [Bool.and_assoc (isOpB op), hq]; simp))
    | true =>
      refine ev_if_pos rfl ?_
      by_cases e : (l.length : Int) = 2
      · refine ev_if_pos e (ev_conv (Ev.bind (l03Has_is opsL op (by decide)) (f := fun k t => some t) (ev_some fun _ => rfl)) ?_)
        rw [Bool.and_assoc (isOpB op), hq, show l.length = 2 by omega]
        simp [isOpB]
      · exact ev_if_neg e (ev_conv (ev_some fun _ => rfl) (by rw [show (l.length == 2) = false from beq_eq_false_iff_ne.mpr (by omega)]; simp))
  rw [if_neg a2]
  by_cases a3 : a = 3
  · rw [if_pos (Or.inl a3)]
    refine Ev.step (fun k => rfl) (ev_if_neg a0 (ev_if_neg a1 (ev_if_neg a2 (ev_if_pos a3 ?_))))
    cases hq : ((n == 0) && nullB v0 v1 v2) with
    | false => exact ev_if_neg (by simp) (ev_conv (ev_some fun _ => rfl) (by simp))
    | true =>
      refine ev_if_pos rfl ?_
      by_cases e : op.toList = ([] : List UInt8)
      · exact ev_if_pos e (ev_conv (ev_some fun _ => rfl) (by rw [hc1]; simp [e]))
      · exact ev_if_neg e (ev_conv (ev_some fun _ => rfl) (by simp [e]))
  by_cases a4 : a = 4
  · rw [if_pos (Or.inr a4)]
    refine Ev.step (fun k => rfl) (ev_if_neg a0 (ev_if_neg a1 (ev_if_neg a2 (ev_if_neg a3 (ev_if_pos a4 ?_)))))
    cases hq : ((n == 0) && nullB v0 v1 v2) with
    | false => exact ev_if_neg (by simp) (ev_conv (ev_some fun _ => rfl) (by simp))
    | true =>
      refine ev_if_pos rfl ?_
      by_cases e : op.toList = ([] : List UInt8)
      · exact ev_if_pos e (ev_conv (ev_some fun _ => rfl) (by rw [hc1]; simp [e]))
      · exact ev_if_neg e (ev_conv (ev_some fun _ => rfl) (by simp [e]))
  · rw [if_neg (by omega)]
    exact Ev.step (fun k => rfl) (ev_if_neg a0 (ev_if_neg a1 (ev_if_neg a2 (ev_if_neg a3 (ev_if_neg a4 (ev_some fun _ => rfl))))))
theorem spec_l03Right_is : ∀ (m : Nat) (y : S39) (d : Int), m ≤ 1000 → d = (m : Int) - 1 → shortI m y → Ev (fun k => spec_l03Right.f k y.f0 y.f1 y.f2.f0 y.f2.f1 y.f2.f2 y.f3 y.f4 d) (okE m y) := by
  intro m
  induction m with
  | zero =>
    intro y d hm hd _
    exact Ev.step (fun k => rfl) (ev_if_pos (by omega) (ev_some fun _ => rfl))
  | succ m ih =>
    intro y d hm hd hy
    obtain ⟨hl, hk⟩ := hy
    refine Ev.step (fun k => rfl) (ev_if_neg (by omega) ?_)
    have fin : ∀ r : Bool, (r = true ↔ locE y.f0 y.f1 y.f2.f0 y.f2.f1 y.f2.f2 y.f3 y.f4.length = true) → Ev (fun k => spec_l03Right.l0 k d (y.f4.length : Int) y.f0 y.f1 y.f2.f0 y.f2.f1 y.f2.f2 y.f3 y.f4) r := by
      intro r hr
      have e : r = locE y.f0 y.f1 y.f2.f0 y.f2.f1 y.f2.f2 y.f3 y.f4.length := by rw [Bool.eq_iff_iff]; exact hr
      rw [e]
      refine Ev.step (fun k => rfl) (ev_if_neg (by omega) ?_)
      have j := l03j_is y.f0 y.f1 y.f2.f0 y.f2.f1 y.f2.f2 y.f3 y.f4 hl
      by_cases e0 : y.f1 = 0
      · rw [if_pos e0] at j
        exact ev_if_pos e0 j
      · rw [if_neg e0] at j
        exact ev_if_neg e0 j
    refine all_loop y.f4.length (fun k i => spec_l03Right.l0 k d i y.f0 y.f1 y.f2.f0 y.f2.f1 y.f2.f2 y.f3 y.f4) (fun j => okE m (y.f4.getD j z39) = true) (locE y.f0 y.f1 y.f2.f0 y.f2.f1 y.f2.f2 y.f3 y.f4.length = true) fin ?_ (okE (m + 1) y) ?_
    · intro i hi r hg hb
      refine Ev.step (fun k => rfl) (ev_if_pos (by omega) (ev_if_pos (by omega) ?_))
      have e := ih (y.f4.getD i z39) (wrap64 (d - 1)) (by omega) (by rw [wrap_id (by omega) (by omega)]; omega) (hk _ (getD_mem _ hi))
      refine Ev.bind (a := okE m (y.f4.getD i z39)) e ?_
      cases ho : okE m (y.f4.getD i z39) with
      | true =>
        refine ev_if_pos rfl ?_
        rw [wrap_succ hi (by omega)]
        exact hg ho
      | false => exact ev_if_neg (by simp) (ev_conv (ev_some fun _ => rfl) (hb fun h => by rw [ho] at h; cases h).symm)
    · rw [forall_getD z39 (p := fun x => okE m x = true)]
      simp only [okE, Bool.and_eq_true, List.all_eq_true]
      exact And.comm
theorem impl_expOk_is (y : S39) (h : shortI 13 y) : Ev (fun k => impl_ExpOk.f k y.f0 y.f1 y.f2.f0 y.f2.f1 y.f2.f2 y.f3 y.f4) (okE 13 y) :=
  Ev.congr (fun k => rfl) (Ev.bind (impl_isExp_is 13 y 0 (by omega) (by omega) h) (f := fun k t => some t) (ev_some fun _ => rfl))
theorem spec_expOk_is (y : S39) (h : shortI 13 y) : Ev (fun k => spec_ExpOk.f k y.f0 y.f1 y.f2.f0 y.f2.f1 y.f2.f2 y.f3 y.f4) (okE 13 y) :=
  Ev.congr (fun k => rfl) (Ev.bind (spec_l03Right_is 13 y 12 (by omega) (by omega) h) (f := fun k t => some t) (ev_some fun _ => rfl))
theorem okEN_mono : ∀ (n m : Nat) (x : S27), n ≤ m → okEN n x → okEN m x
  | 0, _, _, _, h => h.elim
  | n + 1, 0, _, hm, _ => absurd hm (by omega)
  | n + 1, m + 1, x, hm, h => ⟨h.1, h.2.1, h.2.2.1, fun y hy => okEN_mono n m y (by omega) (h.2.2.2 y hy)⟩
theorem lft_sub {l : Int} {w r : Nat} (h : (w : Int) ≤ l) : lft l (w + r) = lft (l - w) r := by
  by_cases g : (r : Int) ≤ l - w
  · rw [lft_of_le g, lft_of_le (by omega)]
    omega
  · rw [lft_of_gt g, lft_of_gt (by omega)]
theorem lft_step {l : Int} {w rest : Nat} (h0 : 0 ≤ l) (f : Int → Option Int) (hf : (w : Int) ≤ l → f (l - w) = some (lft (l - w) rest)) : ((some (lft l w)).bind fun t => if t < 0 then some (-1) else f t) = some (lft l (w + rest)) := by
  rw [Option.bind_some]
  by_cases h : (w : Int) ≤ l
  · rw [lft_of_le h, if_neg (by omega), hf h, lft_sub h]
  · rw [lft_of_gt h, if_pos (by omega), lft_of_gt (by omega)]
theorem szExpS_is (e : Nat) (xs : List S27) (hn : xs.length ≤ 9223372036854775807) (h : ∀ y ∈ xs, okEN e y) : ∃ K, ∀ k, K ≤ k → ∀ l, 0 ≤ l → l ≤ 1048576 → laws_szExpS.f (laws_szExp.f k) k xs l = some (lft l (xs.length + (xs.map (wtEN e)).sum)) := by
  obtain ⟨K, hK⟩ := ev_all (xs := xs) (P := fun k y => ∀ l, 0 ≤ l → l ≤ 1048576 → laws_szExp.f k y.f0 y.f1 y.f2.f0 y.f2.f1 y.f2.f2 y.f3 y.f4 l = some (lft l (wtEN e y))) fun y hy => szExp_is e y (h y hy)
  exact ⟨max K (xs.length + 1), fun k hk l h0 h1 => szk_list z27 (laws_szExpS.f (laws_szExp.f k)) (laws_szExpS.l0 (laws_szExp.f k)) (fun y l => laws_szExp.f k y.f0 y.f1 y.f2.f0 y.f2.f1 y.f2.f2 y.f3 y.f4 l) (wtEN e) (fun _ _ _ => rfl) (fun _ _ _ _ => rfl) xs hn (fun y hy l a b => hK k (by omega) y hy l a b) k (by omega) l h0 h1⟩
def okP (e : Nat) : Nat → S30 → Prop
  | 0, _ => False
  | n + 1, x => x.f1.size ≤ 9223372036854775807 ∧ okEN e x.f2 ∧ x.f3.length ≤ 9223372036854775807 ∧ (∀ y ∈ x.f3, okEN e y) ∧ x.f5.length ≤ 9223372036854775807 ∧ ∀ y ∈ x.f5, okP e n y
def wtP (e : Nat) : Nat → S30 → Nat
  | 0, _ => 0
  | n + 1, x => x.f1.size + (wtEN e x.f2 + ((x.f3.length + (x.f3.map (wtEN e)).sum) + (x.f5.length + (x.f5.map (wtP e n)).sum)))
theorem szPlan_is (e : Nat) : ∀ (n : Nat) (x : S30), okP e n x → ∃ K, ∀ k, K ≤ k → ∀ l, 0 ≤ l → l ≤ 1048576 → laws_szPlan.f k x.f0 x.f1 x.f2.f0 x.f2.f1 x.f2.f2.f0 x.f2.f2.f1 x.f2.f2.f2 x.f2.f3 x.f2.f4 x.f3 x.f4 x.f5 l = some (lft l (wtP e n x))
  | 0, _, h => h.elim
  | n + 1, x, h => by
    obtain ⟨h1, h2, h3, h3', h5, h5'⟩ := h
    obtain ⟨K, hK⟩ := ev_all (xs := x.f5) (P := fun k y => ∀ l, 0 ≤ l → l ≤ 1048576 → laws_szPlan.f k y.f0 y.f1 y.f2.f0 y.f2.f1 y.f2.f2.f0 y.f2.f2.f1 y.f2.f2.f2 y.f2.f3 y.f2.f4 y.f3 y.f4 y.f5 l = some (lft l (wtP e n y))) fun y hy => szPlan_is e n y (h5' y hy)
    obtain ⟨K2, hK2⟩ := szExp_is e x.f2 h2
    obtain ⟨K3, hK3⟩ := szExpS_is e x.f3 h3 h3'
    refine ⟨max (max K K2) (max K3 (x.f5.length + 1)) + 1, fun k hk l h0 hl => ?_⟩
    obtain ⟨k, rfl⟩ : ∃ m, k = m + 1 := ⟨k - 1, by omega⟩
    show (if wrap64 (l - (x.f1.size : Int)) < 0 then some (-1) else _) = _
    rw [wrap_id (x := l - (x.f1.size : Int)) (by omega) (by omega)]
    unfold wtP
    by_cases a : (x.f1.size : Int) ≤ l
    · rw [if_neg (by omega), hK2 k (by omega) _ (by omega) (by omega), lft_sub a]
      refine lft_step (by omega) _ (fun b => ?_)
      rw [hK3 k (by omega) _ (by omega) (by omega)]
      refine lft_step (by omega) _ (fun c => ?_)
      rw [szk_list z30 (laws_szPlanS.f (laws_szPlan.f k)) (laws_szPlanS.l0 (laws_szPlan.f k)) (fun y l => laws_szPlan.f k y.f0 y.f1 y.f2.f0 y.f2.f1 y.f2.f2.f0 y.f2.f2.f1 y.f2.f2.f2 y.f2.f3 y.f2.f4 y.f3 y.f4 y.f5 l) (wtP e n) (fun _ _ _ => rfl) (fun _ _ _ _ => rfl) x.f5 h5 (fun y hy l a b => hK k (by omega) y hy l a b) k (by omega) _ (by omega) (by omega)]
      exact lft_step (rest := 0) (by omega) some (fun d => by rw [lft_of_le (by omega)]; simp)
    · rw [if_pos (by omega), lft_of_gt (by omega)]
theorem wtP_kid {e n : Nat} {x y : S30} {b : Nat} (h : wtP e (n + 1) x ≤ b) (hy : y ∈ x.f5) : wtP e n y ≤ b := by
  have := sum_le_of_mem0 (wtP e n) hy
  unfold wtP at h
  omega
theorem wtP_parts {e n : Nat} {x : S30} {b : Nat} (h : wtP e (n + 1) x ≤ b) : wtEN e x.f2 ≤ b ∧ x.f3.length ≤ b ∧ x.f5.length ≤ b ∧ ∀ y ∈ x.f3, wtEN e y ≤ b := by
  unfold wtP at h
  refine ⟨by omega, by omega, by omega, fun y hy => ?_⟩
  have := sum_le_of_mem0 (wtEN e) hy
  omega
theorem toExpS_is (e : Nat) (xs : List S27) (hn : xs.length ≤ 1048576) (h : ∀ y ∈ xs, okEN e y) (hw : ∀ y ∈ xs, wtEN e y ≤ 1048576) : ∃ K, ∀ k, K ≤ k → laws_toExpS.f (laws_toExp.f k) k xs = some (xs.map (toEN e)) := by
  obtain ⟨K, hK⟩ := ev_all (xs := xs) (P := fun k y => laws_toExp.f k y.f0 y.f1 y.f2.f0 y.f2.f1 y.f2.f2 y.f3 y.f4 = some ((toEN e y).f0, (toEN e y).f1, (toEN e y).f2.f0, (toEN e y).f2.f1, (toEN e y).f2.f2, (toEN e y).f3, (toEN e y).f4)) fun y hy => toExp_is e y (h y hy) (hw y hy)
  refine ⟨max K (xs.length + 1), fun k hk => ?_⟩
  rw [mapk_list z27 z39 (laws_toExpS.f (laws_toExp.f k)) (laws_toExpS.l0 (laws_toExp.f k)) (fun y => laws_toExp.f k y.f0 y.f1 y.f2.f0 y.f2.f1 y.f2.f2 y.f3 y.f4) (fun bt => (⟨bt.1, bt.2.1, (⟨bt.2.2.1, bt.2.2.2.1, bt.2.2.2.2.1⟩ : S36), bt.2.2.2.2.2.1, bt.2.2.2.2.2.2⟩ : S39)) (fun y => ((toEN e y).f0, (toEN e y).f1, (toEN e y).f2.f0, (toEN e y).f2.f1, (toEN e y).f2.f2, (toEN e y).f3, (toEN e y).f4)) 3198579280802 (fun _ _ => rfl) (fun _ _ _ _ => rfl) xs (by omega) (by omega) (fun y hy => hK k (by omega) y hy) k (by omega)]
  have hm : ∀ y : S39, (⟨y.f0, y.f1, (⟨y.f2.f0, y.f2.f1, y.f2.f2⟩ : S36), y.f3, y.f4⟩ : S39) = y := fun y => by cases y; rfl
  exact congrArg some (List.map_congr_left fun y _ => hm (toEN e y))
def toPN (e : Nat) : Nat → S30 → S42
  | 0, _ => z42
  | n + 1, x => ⟨x.f0, x.f1, toEN e x.f2, x.f3.map (toEN e), x.f4, x.f5.map (toPN e n)⟩
theorem toPlan_is (e : Nat) : ∀ (n : Nat) (x : S30), okP e n x → wtP e n x ≤ 1048576 → ∃ K, ∀ k, K ≤ k → laws_toPlan.f k x.f0 x.f1 x.f2.f0 x.f2.f1 x.f2.f2.f0 x.f2.f2.f1 x.f2.f2.f2 x.f2.f3 x.f2.f4 x.f3 x.f4 x.f5 = some ((toPN e n x).f0, (toPN e n x).f1, (toPN e n x).f2.f0, (toPN e n x).f2.f1, (toPN e n x).f2.f2.f0, (toPN e n x).f2.f2.f1, (toPN e n x).f2.f2.f2, (toPN e n x).f2.f3, (toPN e n x).f2.f4, (toPN e n x).f3, (toPN e n x).f4, (toPN e n x).f5)
  | 0, _, h, _ => h.elim
  | n + 1, x, h, hw => by
    obtain ⟨h1, h2, h3, h3', h5, h5'⟩ := h
    obtain ⟨w2, w3, w5, w3'⟩ := wtP_parts hw
    obtain ⟨K, hK⟩ := ev_all (xs := x.f5) (P := fun k y => laws_toPlan.f k y.f0 y.f1 y.f2.f0 y.f2.f1 y.f2.f2.f0 y.f2.f2.f1 y.f2.f2.f2 y.f2.f3 y.f2.f4 y.f3 y.f4 y.f5 = some ((toPN e n y).f0, (toPN e n y).f1, (toPN e n y).f2.f0, (toPN e n y).f2.f1, (toPN e n y).f2.f2.f0, (toPN e n y).f2.f2.f1, (toPN e n y).f2.f2.f2, (toPN e n y).f2.f3, (toPN e n y).f2.f4, (toPN e n y).f3, (toPN e n y).f4, (toPN e n y).f5)) fun y hy => toPlan_is e n y (h5' y hy) (wtP_kid hw hy)
    obtain ⟨K2, hK2⟩ := toExp_is e x.f2 h2 w2
    obtain ⟨K3, hK3⟩ := toExpS_is e x.f3 w3 h3' w3'
    refine ⟨max (max K K2) (max K3 (x.f5.length + 1)) + 1, fun k hk => ?_⟩
    obtain ⟨k, rfl⟩ : ∃ m, k = m + 1 := ⟨k - 1, by omega⟩
    show ((laws_toExp.f k x.f2.f0 x.f2.f1 x.f2.f2.f0 x.f2.f2.f1 x.f2.f2.f2 x.f2.f3 x.f2.f4).bind _) = _
    rw [hK2 k (by omega), Option.bind_some, hK3 k (by omega), Option.bind_some]
    rw [mapk_list z30 z42 (laws_toPlanS.f (laws_toPlan.f k)) (laws_toPlanS.l0 (laws_toPlan.f k)) (fun y => laws_toPlan.f k y.f0 y.f1 y.f2.f0 y.f2.f1 y.f2.f2.f0 y.f2.f2.f1 y.f2.f2.f2 y.f2.f3 y.f2.f4 y.f3 y.f4 y.f5) (fun bt => (⟨bt.1, bt.2.1, (⟨bt.2.2.1, bt.2.2.2.1, (⟨bt.2.2.2.2.1, bt.2.2.2.2.2.1, bt.2.2.2.2.2.2.1⟩ : S36), bt.2.2.2.2.2.2.2.1, bt.2.2.2.2.2.2.2.2.1⟩ : S39), bt.2.2.2.2.2.2.2.2.2.1, bt.2.2.2.2.2.2.2.2.2.2.1, bt.2.2.2.2.2.2.2.2.2.2.2⟩ : S42)) (fun y => ((toPN e n y).f0, (toPN e n y).f1, (toPN e n y).f2.f0, (toPN e n y).f2.f1, (toPN e n y).f2.f2.f0, (toPN e n y).f2.f2.f1, (toPN e n y).f2.f2.f2, (toPN e n y).f2.f3, (toPN e n y).f2.f4, (toPN e n y).f3, (toPN e n y).f4, (toPN e n y).f5)) 1675446289944 (fun _ _ => rfl) (fun _ _ _ _ => rfl) x.f5 (by omega) (by omega) (fun y hy => hK k (by omega) y hy) k (by omega), Option.bind_some]
    have hm : ∀ y : S42, (⟨y.f0, y.f1, (⟨y.f2.f0, y.f2.f1, (⟨y.f2.f2.f0, y.f2.f2.f1, y.f2.f2.f2⟩ : S36), y.f2.f3, y.f2.f4⟩ : S39), y.f3, y.f4, y.f5⟩ : S42) = y := fun y => by
      cases y with
      | mk a b c d e f => cases c; rfl
    have he : toPN e (n + 1) x = ⟨x.f0, x.f1, toEN e x.f2, x.f3.map (toEN e), x.f4, x.f5.map (toPN e n)⟩ := by simp only [toPN]
    rw [he]
    exact congrArg (fun l => some (x.f0, x.f1, (toEN e x.f2).f0, (toEN e x.f2).f1, (toEN e x.f2).f2.f0, (toEN e x.f2).f2.f1, (toEN e x.f2).f2.f2, (toEN e x.f2).f3, (toEN e x.f2).f4, x.f3.map (toEN e), x.f4, l)) (List.map_congr_left fun y _ => hm (toPN e n y))
theorem eqExpS_refl (e : Nat) (xs : List S27) (hn : xs.length ≤ 1048576) (h : ∀ y ∈ xs, okEN e y) (hw : ∀ y ∈ xs, wtEN e y ≤ 1048576) : ∃ K, ∀ k, K ≤ k → laws_eqExpS.f (laws_eqExp.f k) k (xs.map (toEN e)) (xs.map (toEN e)) = some true := by
  obtain ⟨K, hK⟩ := ev_all (xs := xs) (P := fun k y => laws_eqExp.f k (toEN e y).f0 (toEN e y).f1 (toEN e y).f2.f0 (toEN e y).f2.f1 (toEN e y).f2.f2 (toEN e y).f3 (toEN e y).f4 (toEN e y).f0 (toEN e y).f1 (toEN e y).f2.f0 (toEN e y).f2.f1 (toEN e y).f2.f2 (toEN e y).f3 (toEN e y).f4 = some true) fun y hy => eqExp_refl e y (h y hy) (hw y hy)
  refine ⟨max K (xs.length + 1), fun k hk => ?_⟩
  exact eqk_list z39 (laws_eqExpS.f (laws_eqExp.f k)) (laws_eqExpS.l0 (laws_eqExp.f k)) (fun y z => laws_eqExp.f k y.f0 y.f1 y.f2.f0 y.f2.f1 y.f2.f2 y.f3 y.f4 z.f0 z.f1 z.f2.f0 z.f2.f1 z.f2.f2 z.f3 z.f4) (fun _ _ _ => rfl) (fun _ _ _ _ => rfl) (xs.map (toEN e)) (by rw [List.length_map]; omega) (fun y hy => by
      obtain ⟨u, hu, rfl⟩ := List.mem_map.1 hy
      exact hK k (by omega) u hu) k (by rw [List.length_map]; omega)
theorem eqPlan_refl (e : Nat) : ∀ (n : Nat) (x : S30), okP e n x → wtP e n x ≤ 1048576 → ∃ K, ∀ k, K ≤ k → laws_eqPlan.f k (toPN e n x).f0 (toPN e n x).f1 (toPN e n x).f2.f0 (toPN e n x).f2.f1 (toPN e n x).f2.f2.f0 (toPN e n x).f2.f2.f1 (toPN e n x).f2.f2.f2 (toPN e n x).f2.f3 (toPN e n x).f2.f4 (toPN e n x).f3 (toPN e n x).f4 (toPN e n x).f5 (toPN e n x).f0 (toPN e n x).f1 (toPN e n x).f2.f0 (toPN e n x).f2.f1 (toPN e n x).f2.f2.f0 (toPN e n x).f2.f2.f1 (toPN e n x).f2.f2.f2 (toPN e n x).f2.f3 (toPN e n x).f2.f4 (toPN e n x).f3 (toPN e n x).f4 (toPN e n x).f5 = some true
  | 0, _, h, _ => h.elim
  | n + 1, x, h, hw => by
    obtain ⟨h1, h2, h3, h3', h5, h5'⟩ := h
    obtain ⟨w2, w3, w5, w3'⟩ := wtP_parts hw
    obtain ⟨K, hK⟩ := ev_all (xs := x.f5) (P := fun k x => laws_eqPlan.f k (toPN e n x).f0 (toPN e n x).f1 (toPN e n x).f2.f0 (toPN e n x).f2.f1 (toPN e n x).f2.f2.f0 (toPN e n x).f2.f2.f1 (toPN e n x).f2.f2.f2 (toPN e n x).f2.f3 (toPN e n x).f2.f4 (toPN e n x).f3 (toPN e n x).f4 (toPN e n x).f5 (toPN e n x).f0 (toPN e n x).f1 (toPN e n x).f2.f0 (toPN e n x).f2.f1 (toPN e n x).f2.f2.f0 (toPN e n x).f2.f2.f1 (toPN e n x).f2.f2.f2 (toPN e n x).f2.f3 (toPN e n x).f2.f4 (toPN e n x).f3 (toPN e n x).f4 (toPN e n x).f5 = some true) fun y hy => eqPlan_refl e n y (h5' y hy) (wtP_kid hw hy)
    obtain ⟨K2, hK2⟩ := eqExp_refl e x.f2 h2 w2
    obtain ⟨K3, hK3⟩ := eqExpS_refl e x.f3 w3 h3' w3'
    refine ⟨max (max K K2) (max K3 (x.f5.length + 1)) + 1, fun k hk => ?_⟩
    obtain ⟨k, rfl⟩ : ∃ m, k = m + 1 := ⟨k - 1, by omega⟩
    have q := eqk_list z42 (laws_eqPlanS.f (laws_eqPlan.f k)) (laws_eqPlanS.l0 (laws_eqPlan.f k)) (fun y z => laws_eqPlan.f k y.f0 y.f1 y.f2.f0 y.f2.f1 y.f2.f2.f0 y.f2.f2.f1 y.f2.f2.f2 y.f2.f3 y.f2.f4 y.f3 y.f4 y.f5 z.f0 z.f1 z.f2.f0 z.f2.f1 z.f2.f2.f0 z.f2.f2.f1 z.f2.f2.f2 z.f2.f3 z.f2.f4 z.f3 z.f4 z.f5) (fun _ _ _ => rfl) (fun _ _ _ _ => rfl) (x.f5.map (toPN e n)) (by rw [List.length_map]; omega) (fun y hy => by
      obtain ⟨u, hu, rfl⟩ := List.mem_map.1 hy
      exact hK k (by omega) u hu) k (by rw [List.length_map]; omega)
    have he : toPN e (n + 1) x = ⟨x.f0, x.f1, toEN e x.f2, x.f3.map (toEN e), x.f4, x.f5.map (toPN e n)⟩ := by simp only [toPN]
    rw [he]
    show (if x.f0 = x.f0 then (if x.f1.toList = x.f1.toList then _ else _) else _) = _
    rw [if_pos rfl, if_pos rfl, hK2 k (by omega), Option.bind_some, if_pos rfl, hK3 k (by omega), Option.bind_some, if_pos rfl]
    show (if x.f4 = x.f4 then _ else _) = _
    rw [if_pos rfl, q]
    rfl
def findB (a : ByteArray) : List S68 → Option S68
  | [] => none
  | x :: xs => if x.f0.toList = a.toList then some x else findB a xs
def relR : Option S68 → Int × List S126 × Bool
  | none => (0, [], false)
  | some x => (x.f1.f0, x.f1.f1, true)
theorem l04Rel_is (db : List S68) (hn : db.length ≤ 1048576) (a : ByteArray) : Ev (fun k => spec_l04Rel.f k db a) (relR (findB a db)) := by
  have loop : ∀ (m i : Nat), db.length - i = m → i ≤ db.length → Ev (fun k => spec_l04Rel.l0 k db a (i : Int)) (relR (findB a (db.drop i))) := by
    intro m
    induction m with
    | zero =>
      intro i h1 h2
      rw [List.drop_eq_nil_of_le (by omega)]
      exact Ev.step (fun k => rfl) (ev_if_neg (by omega) (ev_some fun _ => rfl))
    | succ m ih =>
      intro i h1 h2
      have hi : i < db.length := by omega
      rw [drop_cons_getD z68 hi]
      show Ev _ (relR (if (db.getD i z68).f0.toList = a.toList then some (db.getD i z68) else findB a (db.drop (i + 1))))
      by_cases hc : (db.getD i z68).f0.toList = a.toList
      · rw [if_pos hc]
        exact Ev.step (fun k => rfl) (ev_if_pos (by omega) (ev_if_pos (by omega) (ev_if_pos hc (ev_some fun _ => rfl))))
      · rw [if_neg hc]
        refine Ev.step (fun k => rfl) (ev_if_pos (by omega) (ev_if_pos (by omega) (ev_if_neg hc ?_)))
        rw [wrap_succ hi (by omega)]
        exact ih (i + 1) (by omega) (by omega)
  have h := loop db.length 0 (by omega) (Nat.zero_le _)
  rw [List.drop_zero] at h
  exact h
theorem idx_find (a : ByteArray) : ∀ (xs : List S68) (n : Int), 0 ≤ n → ∃ i, idxO (impl_findRel.g a) xs n = some i ∧ ((i = -1 ∧ findB a xs = none) ∨ (n ≤ i ∧ i < n + xs.length ∧ findB a xs = some (xs.getD (i - n).toNat z68)))
  | [], n, _ => ⟨-1, rfl, Or.inl ⟨rfl, rfl⟩⟩
  | x :: xs, n, hn => by
    by_cases hc : x.f0.toList = a.toList
    · refine ⟨n, ?_, Or.inr ⟨by omega, by simp only [List.length_cons]; omega, ?_⟩⟩
      · show (impl_findRel.g a x).bind (fun b => if b = true then some n else _) = some n
        unfold impl_findRel.g
        rw [hc]; simp
      · rw [Int.sub_self]
        show (if x.f0.toList = a.toList then some x else _) = _
        rw [if_pos hc]; rfl
    · obtain ⟨i, h1, h2⟩ := idx_find a xs (n + 1) (by omega)
      refine ⟨i, ?_, ?_⟩
      · show (impl_findRel.g a x).bind (fun b => if b = true then some n else idxO (impl_findRel.g a) xs (n + 1)) = some i
        unfold impl_findRel.g
        rw [show (x.f0.toList == a.toList) = false from beq_eq_false_iff_ne.2 hc]
        exact h1
      · have e : findB a (x :: xs) = findB a xs := if_neg hc
        rw [e]
        rcases h2 with h2 | ⟨g1, g2, g3⟩
        · exact Or.inl h2
        · refine Or.inr ⟨by omega, by simp only [List.length_cons]; omega, ?_⟩
          rw [g3, show (i - n).toNat = (i - (n + 1)).toNat + 1 by omega]
          rfl
def relI : Option S68 → ByteArray × Int × List S126 × Bool
  | none => (⟨#[]⟩, 0, [], false)
  | some x => (x.f0, x.f1.f0, x.f1.f1, true)
theorem findRel_is (db : List S68) (a : ByteArray) : impl_findRel.f db a = some (relI (findB a db)) := by
  obtain ⟨i, h1, h2⟩ := idx_find a db 0 (Int.le_refl _)
  unfold impl_findRel.f
  rw [h1, Option.bind_some]
  rcases h2 with ⟨rfl, h2⟩ | ⟨g1, g2, g3⟩
  · rw [if_pos (by decide), h2]; rfl
  · rw [if_neg (by omega), if_pos g1, if_pos (by omega), g3, Int.sub_zero]; rfl
def colsE : Nat → S39 → List Int
  | 0, _ => []
  | m + 1, y => (if y.f0 = 0 then [y.f1] else []) ++ y.f4.flatMap (colsE m)
def ndE : Nat → S39 → Nat
  | 0, _ => 0
  | m + 1, y => 1 + (y.f4.map (ndE m)).sum
def hE : Nat → S39 → Prop
  | 0, _ => False
  | m + 1, y => ∀ z ∈ y.f4, hE m z
def nE : Nat → S39 → Prop
  | 0, _ => True
  | m + 1, y => (Lit.int .i64 y.f1).wf = true ∧ y.f4.length ≤ 1048576 ∧ ∀ z ∈ y.f4, nE m z
theorem locE_kids {a n v0 v1 : Int} {v2 op : ByteArray} {c : Nat} (h : locE a n v0 v1 v2 op c = true) : c ≤ 2 := by
  unfold locE at h
  repeat' split at h
  all_goals first | (simp only [Bool.and_eq_true, beq_iff_eq] at h; have := h.2; omega) | cases h
theorem okE_parts {m : Nat} {y : S39} (h : okE (m + 1) y = true) : y.f4.length ≤ 2 ∧ ∀ z ∈ y.f4, okE m z = true := by
  unfold okE at h
  rw [Bool.and_eq_true, List.all_eq_true] at h
  exact ⟨locE_kids h.1, h.2⟩
theorem flatMap_congr' {α β : Type} {f g : α → List β} : ∀ {l : List α}, (∀ x ∈ l, f x = g x) → l.flatMap f = l.flatMap g
  | [], _ => rfl
  | x :: l, h => by
    rw [List.flatMap_cons, List.flatMap_cons, h x (by simp), flatMap_congr' fun y hy => h y (by simp [hy])]
theorem cols_okE : ∀ (m n : Nat) (y : S39), m ≤ n → okE m y = true → colsE n y = colsE m y
  | 0, _, _, _, h => by cases h
  | m + 1, 0, _, hm, _ => absurd hm (by omega)
  | m + 1, n + 1, y, hm, h => by
    unfold colsE
    rw [flatMap_congr' fun z hz => cols_okE m n z (by omega) ((okE_parts h).2 z hz)]
theorem len_flatMap {α β : Type} (f : α → List β) (g : α → Nat) : ∀ (l : List α), (∀ x ∈ l, (f x).length ≤ g x) → (l.flatMap f).length ≤ (l.map g).sum
  | [], _ => Nat.le_refl _
  | x :: l, h => by
    rw [List.flatMap_cons, List.length_append, List.map_cons, List.sum_cons]
    have h1 := h x (by simp)
    have h2 := len_flatMap f g l fun y hy => h y (by simp [hy])
    omega
theorem sum_le_const {α : Type} (g : α → Nat) (b : Nat) : ∀ (l : List α), (∀ x ∈ l, g x ≤ b) → (l.map g).sum ≤ l.length * b
  | [], _ => by simp
  | x :: l, h => by
    rw [List.map_cons, List.sum_cons, List.length_cons, Nat.succ_mul]
    have h1 := h x (by simp)
    have h2 := sum_le_const g b l fun y hy => h y (by simp [hy])
    omega
theorem cols_len_ok : ∀ (m : Nat) (y : S39), okE m y = true → (colsE m y).length + 1 ≤ 4 ^ m
  | 0, _, h => by cases h
  | m + 1, y, h => by
    obtain ⟨h1, h2⟩ := okE_parts h
    unfold colsE
    have hl := len_flatMap (colsE m) (fun _ => 4 ^ m - 1) y.f4 fun z hz => by
      have := cols_len_ok m z (h2 z hz)
      omega
    have hs := sum_le_const (fun _ : S39 => 4 ^ m - 1) (4 ^ m - 1) y.f4 (fun _ _ => Nat.le_refl _)
    have hm : y.f4.length * (4 ^ m - 1) ≤ 2 * (4 ^ m - 1) := Nat.mul_le_mul_right _ h1
    have hp : 1 ≤ 4 ^ m := Nat.one_le_pow _ _ (by omega)
    have hi : (if y.f0 = 0 then [y.f1] else ([] : List Int)).length ≤ 1 := by split <;> simp
    rw [List.length_append, Nat.pow_succ]
    omega
theorem columns_is : ∀ (m : Nat) (y : S39) (d : Int) (s : List Int), m ≤ 41 → 0 < m → d = 41 - m → nE m y → s.length + (colsE m y).length ≤ 1073741824 → Ev (fun k => impl_columns.f k y.f0 y.f1 y.f2.f0 y.f2.f1 y.f2.f2 y.f3 y.f4 d s) (s ++ colsE m y)
  | 0, _, _, _, _, h0, _, _, _ => absurd h0 (by omega)
  | m + 1, y, d, s, hm, _, hd, hn, hs => by
    obtain ⟨n1, n2, n3⟩ := hn
    have low : ∀ s1 : List Int, s1.length + (y.f4.flatMap (colsE m)).length ≤ 1073741824 → Ev (fun k => impl_columns.j0 k d s1 y.f0 y.f1 y.f2.f0 y.f2.f1 y.f2.f2 y.f3 y.f4) (s1 ++ y.f4.flatMap (colsE m)) := by
      intro s1 hs1
      by_cases hd4 : d < 40
      · refine Ev.step (fun k => rfl) (ev_if_pos hd4 ?_)
        have loop : ∀ (q i : Nat) (s2 : List Int), y.f4.length - i = q → i ≤ y.f4.length → s2.length + ((y.f4.drop i).flatMap (colsE m)).length ≤ 1073741824 → Ev (fun k => impl_columns.l0 k d s2 y.f4 (y.f4.length : Int) (i : Int)) (s2 ++ (y.f4.drop i).flatMap (colsE m)) := by
          intro q
          induction q with
          | zero =>
            intro i s2 h1 h2 h3
            rw [List.drop_eq_nil_of_le (by omega)]
            exact Ev.step (fun k => rfl) (ev_if_neg (by omega) (ev_some fun _ => by simp))
          | succ q ih =>
            intro i s2 h1 h2 h3
            have hi : i < y.f4.length := by omega
            have hz := getD_mem z39 hi
            rw [drop_cons_getD z39 hi, List.flatMap_cons] at h3 ⊢
            rw [List.length_append] at h3
            have hk := columns_is m (y.f4.getD i z39) (wrap64 (d + 1)) s2 (by omega) (by omega) (by rw [wrap_id (by omega) (by omega)]; omega) (n3 _ hz) (by omega)
            have e : rd_T39 y.f4 (i : Int) = y.f4.getD i z39 := by unfold rd_T39; rw [Int.toNat_natCast]
            refine Ev.step (fun k => rfl) (ev_if_pos (by omega) (ev_if_pos (by omega) (ev_if_pos (by omega) ?_)))
            rw [e, wrap_succ hi (by omega)]
            refine Ev.bind hk (ev_conv (ih (i + 1) _ (by omega) (by omega) (by rw [List.length_append]; omega)) ?_)
            rw [List.append_assoc]
        have h := loop y.f4.length 0 s1 (by omega) (by omega) (by rw [List.drop_zero]; exact hs1)
        rw [List.drop_zero] at h
        exact h
      · have hm0 : m = 0 := by omega
        subst hm0
        refine Ev.step (fun k => rfl) (ev_if_neg hd4 (ev_some fun _ => ?_))
        have e : y.f4.flatMap (colsE 0) = [] := by
          induction y.f4 with
          | nil => rfl
          | cons a l ih => rw [List.flatMap_cons, ih]; rfl
        rw [e, List.append_nil]
    unfold colsE at hs ⊢
    by_cases h0 : y.f0 = 0
    · rw [if_pos h0] at hs ⊢
      rw [List.length_append, List.length_singleton] at hs
      refine Ev.step (fun k => rfl) (ev_if_pos h0 (ev_if_pos ⟨by omega, n1⟩ (ev_conv (low (s ++ [y.f1]) (by rw [List.length_append, List.length_singleton]; omega)) ?_)))
      rw [List.append_assoc]
    · rw [if_neg h0] at hs ⊢
      rw [List.nil_append] at hs ⊢
      exact Ev.step (fun k => rfl) (ev_if_neg h0 (low s hs))
def insL (x : Int) : List Int → List Int
  | [] => [x]
  | a :: l => if a < x then a :: insL x l else if a = x then a :: l else x :: a :: l
theorem insL_len (x : Int) : ∀ l, (insL x l).length ≤ l.length + 1
  | [] => Nat.le_refl _
  | a :: l => by
    unfold insL
    have := insL_len x l
    split
    · simp only [List.length_cons]; omega
    · split <;> simp only [List.length_cons] <;> omega
theorem insL_mem (x z : Int) : ∀ l, z ∈ insL x l ↔ z = x ∨ z ∈ l
  | [] => by unfold insL; simp
  | a :: l => by
    have ih := insL_mem x z l
    unfold insL
    split
    · rw [List.mem_cons, ih, List.mem_cons]
      constructor
      · rintro (h | h | h)
        · exact Or.inr (Or.inl h)
        · exact Or.inl h
        · exact Or.inr (Or.inr h)
      · rintro (h | h | h)
        · exact Or.inr (Or.inl h)
        · exact Or.inl h
        · exact Or.inr (Or.inr h)
    · split
      · rename_i h
        subst h
        simp only [List.mem_cons]
        constructor
        · exact fun h => Or.inr h
        · rintro (h | h)
          · exact Or.inl h
          · exact h
      · simp only [List.mem_cons]
theorem insL_rise (x : Int) : ∀ l, l.Pairwise (· < ·) → (insL x l).Pairwise (· < ·)
  | [], _ => List.pairwise_singleton _ _
  | a :: l, h => by
    have hp := List.pairwise_cons.1 h
    unfold insL
    split
    · rename_i hl
      refine List.pairwise_cons.2 ⟨fun z hz => ?_, insL_rise x l hp.2⟩
      rcases (insL_mem x z l).1 hz with rfl | hz
      · exact hl
      · exact hp.1 z hz
    · split
      · exact h
      · rename_i h1 h2
        refine List.pairwise_cons.2 ⟨fun z hz => ?_, h⟩
        rcases List.mem_cons.1 hz with rfl | hz
        · omega
        · have := hp.1 z hz
          omega
theorem insL_take (x : Int) : ∀ (i : Nat) (l : List Int), i ≤ l.length → (∀ j, j < i → l.getD j 0 < x) → insL x l = l.take i ++ insL x (l.drop i)
  | 0, _, _, _ => rfl
  | i + 1, [], h, _ => absurd h (by simp)
  | i + 1, a :: l, h, hj => by
    have h0 : a < x := hj 0 (by omega)
    show insL x (a :: l) = a :: (l.take i ++ insL x (l.drop i))
    rw [← insL_take x i l (by simpa using h) fun j hj' => hj (j + 1) (by omega)]
    show (if a < x then _ else _) = _
    rw [if_pos h0]
theorem l03Add_is (l : List Int) (x : Int) (hl : l.length ≤ 1000000000) : Ev (fun k => spec_l03Add.f k l x) (insL x l) := by
  have loop : ∀ (q i : Nat), l.length - i = q → i ≤ l.length → (∀ j, j < i → l.getD j 0 < x) → Ev (fun k => spec_l03Add.l0 k l x (i : Int)) (insL x l) := by
    intro q
    induction q with
    | zero =>
      intro i h1 h2 hj
      have hi : i = l.length := by omega
      subst hi
      rw [insL_take x l.length l (Nat.le_refl _) hj, List.drop_length]
      refine Ev.step (fun k => rfl) (ev_if_neg (by omega) (ev_bind0 rfl (ev_if_pos (by omega) (ev_if_pos (by omega) (ev_if_pos (by simp; omega) (ev_bind0 rfl (ev_bind0 rfl (ev_if_pos (by simp; omega) (ev_bind0 rfl (ev_if_pos (by simp; omega) (ev_some fun _ => ?_)))))))))))
      rw [Int.toNat_natCast, List.drop_length, List.append_nil, List.nil_append]
      rfl
    | succ q ih =>
      intro i h1 h2 hj
      have hi : i < l.length := by omega
      have e : rd l (i : Int) = l.getD i 0 := by unfold rd; rw [Int.toNat_natCast]
      by_cases hx : rd l (i : Int) < x
      · refine Ev.step (fun k => rfl) (ev_if_pos (by omega) (ev_if_pos (by omega) (ev_if_pos hx ?_)))
        rw [wrap_succ hi (by omega)]
        refine ih (i + 1) (by omega) (by omega) fun j hj' => ?_
        rcases Nat.lt_or_ge j i with h | h
        · exact hj j h
        · obtain rfl : j = i := by omega
          rw [← e]; exact hx
      · rw [insL_take x i l (by omega) hj, drop_cons_getD 0 hi]
        rw [e] at hx
        by_cases hq : rd l (i : Int) = x
        · refine Ev.step (fun k => rfl) (ev_if_pos (by omega) (ev_if_pos (by omega) (ev_if_neg (by rw [e]; exact hx) (ev_if_pos hq (ev_some fun _ => ?_)))))
          rw [e] at hq
          show some l = some (l.take i ++ (if l.getD i 0 < x then _ else if l.getD i 0 = x then l.getD i 0 :: l.drop (i + 1) else _))
          rw [if_neg hx, if_pos hq, ← drop_cons_getD 0 hi, List.take_append_drop]
        · refine Ev.step (fun k => rfl) (ev_if_pos (by omega) (ev_if_pos (by omega) (ev_if_neg (by rw [e]; exact hx) (ev_if_neg hq (ev_bind0 rfl (ev_if_pos (by omega) (ev_if_pos (by simp; omega) (ev_bind0 rfl (ev_bind0 rfl (ev_if_pos (by simp; omega) (ev_bind0 rfl (ev_if_pos (by simp; omega) (ev_some fun _ => ?_)))))))))))))
          rw [e] at hq
          show _ = some (l.take i ++ (if l.getD i 0 < x then _ else if l.getD i 0 = x then _ else x :: l.getD i 0 :: l.drop (i + 1)))
          rw [if_neg hx, if_neg hq, ← drop_cons_getD 0 hi, Int.toNat_natCast, List.nil_append, List.append_assoc]
          rfl
  exact loop l.length 0 (by omega) (by omega) fun j hj => absurd hj (by omega)
def addAll (s : List Int) (more : List Int) : List Int := more.foldl (fun s x => insL x s) s
def colsS : Nat → S39 → List Int
  | 0, _ => []
  | m + 1, y => (y.f4.map (colsS m)).foldl addAll (if y.f0 = 0 then [y.f1] else [])
theorem addAll_props : ∀ (more s : List Int), s.Pairwise (· < ·) → (addAll s more).Pairwise (· < ·) ∧ (∀ z, z ∈ addAll s more ↔ z ∈ s ∨ z ∈ more) ∧ (addAll s more).length ≤ s.length + more.length
  | [], s, h => ⟨h, fun z => by simp [addAll], Nat.le_refl _⟩
  | x :: more, s, h => by
    obtain ⟨h1, h2, h3⟩ := addAll_props more (insL x s) (insL_rise x s h)
    refine ⟨h1, fun z => ?_, ?_⟩
    · show z ∈ addAll (insL x s) more ↔ _
      rw [h2 z, insL_mem, List.mem_cons]
      constructor
      · rintro ((h | h) | h)
        · exact Or.inr (Or.inl h)
        · exact Or.inl h
        · exact Or.inr (Or.inr h)
      · rintro (h | h | h)
        · exact Or.inl (Or.inr h)
        · exact Or.inl (Or.inl h)
        · exact Or.inr h
    · have := insL_len x s
      show (addAll (insL x s) more).length ≤ _
      rw [List.length_cons]
      omega
theorem addAlls_props : ∀ (L : List (List Int)) (s : List Int), s.Pairwise (· < ·) → (L.foldl addAll s).Pairwise (· < ·) ∧ (∀ z, z ∈ L.foldl addAll s ↔ z ∈ s ∨ ∃ l ∈ L, z ∈ l) ∧ (L.foldl addAll s).length ≤ s.length + (L.map List.length).sum
  | [], s, h => ⟨h, fun z => by simp, Nat.le_refl _⟩
  | l :: L, s, h => by
    obtain ⟨a1, a2, a3⟩ := addAll_props l s h
    obtain ⟨h1, h2, h3⟩ := addAlls_props L (addAll s l) a1
    refine ⟨h1, fun z => ?_, ?_⟩
    · show z ∈ L.foldl addAll (addAll s l) ↔ _
      rw [h2 z, a2 z]
      constructor
      · rintro ((h | h) | ⟨q, hq, hz⟩)
        · exact Or.inl h
        · exact Or.inr ⟨l, by simp, h⟩
        · exact Or.inr ⟨q, by simp [hq], hz⟩
      · rintro (h | ⟨q, hq, hz⟩)
        · exact Or.inl (Or.inl h)
        · rcases List.mem_cons.1 hq with rfl | hq
          · exact Or.inl (Or.inr hz)
          · exact Or.inr ⟨q, hq, hz⟩
    · show (L.foldl addAll (addAll s l)).length ≤ _
      rw [List.map_cons, List.sum_cons]
      omega
theorem own_rise (y : S39) : (if y.f0 = 0 then [y.f1] else ([] : List Int)).Pairwise (· < ·) := by
  split
  · exact List.pairwise_singleton _ _
  · exact List.Pairwise.nil
theorem colsS_props : ∀ (m : Nat) (y : S39), (colsS m y).Pairwise (· < ·) ∧ (∀ z, z ∈ colsS m y ↔ z ∈ colsE m y) ∧ (colsS m y).length ≤ ndE m y
  | 0, _ => ⟨List.Pairwise.nil, fun z => Iff.rfl, Nat.le_refl _⟩
  | m + 1, y => by
    obtain ⟨h1, h2, h3⟩ := addAlls_props (y.f4.map (colsS m)) _ (own_rise y)
    refine ⟨h1, fun z => ?_, ?_⟩
    · unfold colsS colsE
      rw [h2 z, List.mem_append, List.mem_flatMap]
      constructor
      · rintro (h | ⟨l, hl, hz⟩)
        · exact Or.inl h
        · obtain ⟨q, hq, rfl⟩ := List.mem_map.1 hl
          exact Or.inr ⟨q, hq, ((colsS_props m q).2.1 z).1 hz⟩
      · rintro (h | ⟨q, hq, hz⟩)
        · exact Or.inl h
        · exact Or.inr ⟨colsS m q, List.mem_map.2 ⟨q, hq, rfl⟩, ((colsS_props m q).2.1 z).2 hz⟩
    · unfold ndE
      have hs : (((y.f4.map (colsS m)).map List.length).sum) ≤ (y.f4.map (ndE m)).sum := by
        rw [List.map_map]
        have : ∀ l : List S39, (l.map (List.length ∘ colsS m)).sum ≤ (l.map (ndE m)).sum := by
          intro l
          induction l with
          | nil => exact Nat.le_refl _
          | cons a l ih =>
            rw [List.map_cons, List.sum_cons, List.map_cons, List.sum_cons]
            have := (colsS_props m a).2.2
            show (colsS m a).length + _ ≤ _
            omega
        exact this _
      have hi : (if y.f0 = 0 then [y.f1] else ([] : List Int)).length ≤ 1 := by split <;> simp
      unfold colsS
      omega
theorem colsOf_is : ∀ (n : Nat) (y : S39), hE n y → nE n y → ndE n y ≤ 100000000 → Ev (fun k => spec_ColsOf.f k y.f0 y.f1 y.f2.f0 y.f2.f1 y.f2.f2 y.f3 y.f4) (colsS n y)
  | 0, _, h, _, _ => h.elim
  | n + 1, y, hh, hn, hw => by
    obtain ⟨_, n2, n3⟩ := hn
    unfold ndE at hw
    have kid : ∀ z ∈ y.f4, Ev (fun k => spec_ColsOf.f k z.f0 z.f1 z.f2.f0 z.f2.f1 z.f2.f2 z.f3 z.f4) (colsS n z) ∧ (colsS n z).length ≤ 100000000 := fun z hz => by
      have h1 := sum_le_of_mem0 (ndE n) hz
      have h2 := (colsS_props n z).2.2
      exact ⟨colsOf_is n z (hh z hz) (n3 z hz) (by omega), by omega⟩
    have outer : ∀ (q i : Nat) (s : List Int), y.f4.length - i = q → i ≤ y.f4.length → s.Pairwise (· < ·) → s.length + ((y.f4.drop i).map (ndE n)).sum ≤ 100000001 → Ev (fun k => spec_ColsOf.l0 k s (i : Int) y.f0 y.f1 y.f2.f0 y.f2.f1 y.f2.f2 y.f3 y.f4) (((y.f4.drop i).map (colsS n)).foldl addAll s) := by
      intro q
      induction q with
      | zero =>
        intro i s h1 h2 h3 h4
        rw [List.drop_eq_nil_of_le (by omega)]
        exact Ev.step (fun k => rfl) (ev_if_neg (by omega) (ev_some fun _ => rfl))
      | succ q ih =>
        intro i s h1 h2 h3 h4
        have hi : i < y.f4.length := by omega
        have hz := getD_mem z39 hi
        obtain ⟨kz, lz⟩ := kid _ hz
        have e : rd_T39 y.f4 (i : Int) = y.f4.getD i z39 := by unfold rd_T39; rw [Int.toNat_natCast]
        rw [drop_cons_getD z39 hi, List.map_cons, List.sum_cons] at h4
        rw [drop_cons_getD z39 hi, List.map_cons]
        have nz := (colsS_props n (y.f4.getD i z39)).2.2
        generalize hM : colsS n (y.f4.getD i z39) = M at *
        have inner : ∀ (p j : Nat) (s1 : List Int), M.length - j = p → j ≤ M.length → s1.Pairwise (· < ·) → s1.length + (M.length - j) + ((y.f4.drop (i + 1)).map (ndE n)).sum ≤ 100000001 → Ev (fun k => spec_ColsOf.l1 k s1 (i : Int) M (j : Int) y.f0 y.f1 y.f2.f0 y.f2.f1 y.f2.f2 y.f3 y.f4) (((y.f4.drop (i + 1)).map (colsS n)).foldl addAll (addAll s1 (M.drop j))) := by
          intro p
          induction p with
          | zero =>
            intro j s1 g1 g2 g3 g4
            rw [List.drop_eq_nil_of_le (show M.length ≤ j by omega)]
            refine Ev.step (fun k => rfl) (ev_if_neg (by omega) ?_)
            rw [wrap_succ hi (by omega)]
            exact ih (i + 1) s1 (by omega) (by omega) g3 (by omega)
          | succ p ihp =>
            intro j s1 g1 g2 g3 g4
            have hj : j < M.length := by omega
            have e2 : rd M (j : Int) = M.getD j 0 := by unfold rd; rw [Int.toNat_natCast]
            rw [drop_cons_getD 0 hj]
            refine Ev.step (fun k => rfl) (ev_if_pos (by omega) (ev_if_pos (by omega) ?_))
            rw [e2, wrap_succ hj (by omega)]
            have hl := insL_len (M.getD j 0) s1
            exact Ev.bind (l03Add_is s1 _ (by omega)) (ihp (j + 1) _ (by omega) (by omega) (insL_rise _ _ g3) (by omega))
        refine Ev.step (fun k => rfl) (ev_if_pos (by omega) (ev_if_pos (by omega) ?_))
        rw [e]
        refine Ev.bind kz ?_
        have h := inner M.length 0 s (by omega) (by omega) h3 (by omega)
        rw [List.drop_zero] at h
        exact h
    have go : ∀ s : List Int, s.Pairwise (· < ·) → s.length ≤ 1 → Ev (fun k => spec_ColsOf.j0 k s y.f0 y.f1 y.f2.f0 y.f2.f1 y.f2.f2 y.f3 y.f4) ((y.f4.map (colsS n)).foldl addAll s) := by
      intro s hs hl
      have h := outer y.f4.length 0 s (by omega) (by omega) hs (by rw [List.drop_zero]; omega)
      rw [List.drop_zero] at h
      exact Ev.step (fun k => rfl) h
    unfold colsS
    by_cases h0 : y.f0 = 0
    · rw [if_pos h0]
      exact Ev.step (fun k => rfl) (ev_bind0 rfl (ev_if_pos h0 (Ev.bind (l03Add_is [] y.f1 (by simp)) (go [y.f1] (List.pairwise_singleton _ _) (by simp)))))
    · rw [if_neg h0]
      exact Ev.step (fun k => rfl) (ev_bind0 rfl (ev_if_neg h0 (go [] List.Pairwise.nil (by simp))))
def ovB (y : S39) (w : Int) : Bool := okE 13 y && (colsE 13 y).all (fun n => decide (n < w))
def gdE (n : Nat) (y : S39) : Prop := 13 ≤ n ∧ hE n y ∧ nE n y ∧ nE 41 y ∧ ndE n y ≤ 100000000 ∧ shortI 13 y
theorem isOver_is (n : Nat) (y : S39) (h : gdE n y) (w : Int) : Ev (fun k => impl_isOver.f k y.f0 y.f1 y.f2.f0 y.f2.f1 y.f2.f2 y.f3 y.f4 w) (ovB y w) := by
  obtain ⟨_, _, _, h4, _, h6⟩ := h
  refine Ev.congr (fun k => rfl) (Ev.bind (impl_expOk_is y h6) ?_)
  unfold ovB
  by_cases hok : okE 13 y = true
  · have hc := cols_okE 13 41 y (by omega) hok
    have hl := cols_len_ok 13 y hok
    refine ev_if_pos hok (Ev.bind (columns_is 41 y 0 [] (by omega) (by omega) (by omega) h4 (by rw [hc]; simp; omega)) (ev_if_pos (by rw [List.nil_append, hc]; omega) (ev_some fun _ => ?_)))
    rw [List.nil_append, hc, hok, Bool.true_and]
  · exact ev_if_neg hok (ev_some fun _ => by rw [Bool.eq_false_iff.2 hok]; rfl)
theorem rise_last {l : List Int} (h : l.Pairwise (· < ·)) (h0 : 0 < l.length) (w : Int) : (l.getD (l.length - 1) 0 < w) ↔ ∀ z ∈ l, z < w := by
  have hm : l.getD (l.length - 1) 0 ∈ l := getD_mem 0 (by omega)
  refine ⟨fun hw z hz => ?_, fun hw => hw _ hm⟩
  obtain ⟨j, hj, rfl⟩ := List.getElem_of_mem hz
  rcases Nat.lt_or_ge j (l.length - 1) with hlt | hge
  · have := List.pairwise_iff_getElem.1 h j (l.length - 1) hj (by omega) hlt
    rw [List.getD_eq_getElem?_getD, List.getElem?_eq_getElem (by omega : l.length - 1 < l.length)] at hw
    have hw : l[l.length - 1] < w := hw
    omega
  · obtain rfl : j = l.length - 1 := by omega
    rw [List.getD_eq_getElem?_getD, List.getElem?_eq_getElem hj] at hw
    exact hw
theorem l04Below_is (n : Nat) (y : S39) (h : gdE n y) (w : Int) : Ev (fun k => spec_l04Below.f k y.f0 y.f1 y.f2.f0 y.f2.f1 y.f2.f2 y.f3 y.f4 w) (ovB y w) := by
  obtain ⟨h1, h2, h3, _, h5, h6⟩ := h
  obtain ⟨p1, p2, p3⟩ := colsS_props n y
  refine Ev.congr (fun k => rfl) (Ev.bind (colsOf_is n y h2 h3 h5) (Ev.bind (spec_expOk_is y h6) ?_))
  unfold ovB
  by_cases hok : okE 13 y = true
  · rw [hok, Bool.true_and]
    have hc := cols_okE 13 n y h1 hok
    rw [hc] at p2
    generalize colsS n y = C at *
    refine ev_if_pos rfl ?_
    by_cases h0 : (C.length : Int) = 0
    · refine ev_if_pos h0 (ev_some fun _ => ?_)
      have hC : C = [] := List.length_eq_zero_iff.1 (by omega)
      have e : (colsE 13 y).all (fun n => decide (n < w)) = true := by
        rw [List.all_eq_true]
        intro z hz
        have := (p2 z).2 hz
        rw [hC] at this
        cases this
      rw [e]
    · have w1 : wrap64 ((C.length : Int) - 1) = ((C.length - 1 : Nat) : Int) := wrap_pred (by omega) (by omega)
      refine ev_if_neg h0 (ev_if_pos (by rw [w1]; omega) (ev_if_pos (by rw [w1]; omega) (ev_some fun _ => ?_)))
      rw [w1]
      have e : rd C ((C.length - 1 : Nat) : Int) = C.getD (C.length - 1) 0 := by unfold rd; rw [Int.toNat_natCast]
      rw [e]
      have hl := rise_last p1 (by omega) w
      congr 1
      rw [Bool.eq_iff_iff, decide_eq_true_eq, hl, List.all_eq_true]
      exact ⟨fun h z hz => decide_eq_true (h z ((p2 z).2 hz)), fun h z hz => of_decide_eq_true (h z ((p2 z).1 hz))⟩
  · rw [Bool.eq_false_iff.2 hok]
    exact ev_if_neg (by simp) (ev_some fun _ => rfl)
theorem l04All_is (n : Nat) (l : List S39) (hl : l.length ≤ 1048576) (h : ∀ y ∈ l, gdE n y) (w : Int) : Ev (fun k => spec_l04All.f k l w) (l.all (fun y => ovB y w)) := by
  have loop : ∀ (q i : Nat), l.length - i = q → i ≤ l.length → Ev (fun k => spec_l04All.l0 k l w (i : Int)) ((l.drop i).all (fun y => ovB y w)) := by
    intro q
    induction q with
    | zero =>
      intro i h1 h2
      rw [List.drop_eq_nil_of_le (by omega)]
      exact Ev.step (fun k => rfl) (ev_if_neg (by omega) (ev_some fun _ => rfl))
    | succ q ih =>
      intro i h1 h2
      have hi : i < l.length := by omega
      have e : rd_T39 l (i : Int) = l.getD i z39 := by unfold rd_T39; rw [Int.toNat_natCast]
      rw [drop_cons_getD z39 hi, List.all_cons]
      refine Ev.step (fun k => rfl) (ev_if_pos (by omega) (ev_if_pos (by omega) ?_))
      rw [e, wrap_succ hi (by omega)]
      refine Ev.bind (l04Below_is n _ (h _ (getD_mem z39 hi)) w) ?_
      cases hb : ovB (l.getD i z39) w with
      | true => rw [Bool.true_and]; exact ev_if_pos rfl (ih (i + 1) (by omega) (by omega))
      | false => exact ev_if_neg (by simp) (ev_some fun _ => rfl)
  have h := loop l.length 0 (by omega) (by omega)
  rw [List.drop_zero] at h
  exact h
theorem overAll_is (n : Nat) (l : List S39) (h : ∀ y ∈ l, gdE n y) (w : Int) : Ev (fun k => widthOf_all k l w) (l.all (fun y => ovB y w)) :=
  allO_evs fun y hy => isOver_is n y (h y hy) w
theorem l01In_is (a b c : Int) : spec_l01In.f a b c = some (decide (b ≤ a ∧ a ≤ c)) := by
  unfold spec_l01In.f
  by_cases h : a ≥ b
  · by_cases h2 : a ≤ c
    · rw [if_pos h]; simp [h, h2]
    · rw [if_pos h]; simp [h, h2]
  · rw [if_neg h]; simp; omega
def noneB (e : S39) : Bool := (e.f0 == 0) && ((e.f1 == 0) && (nullB e.f2.f0 e.f2.f1 e.f2.f2 && ((e.f3.toList == ([] : List UInt8)) && decide (e.f4.length = 0))))
def kidsN (a : Int) : Int := if 0 ≤ a ∧ a ≤ 6 then rd [0, 1, 1, 2, 2, 1, 1] a else -1
def restB (p : S42) : Bool := (p.f0 == 2 || (p.f0 == 6 || decide (p.f3.length = 0))) && ((p.f0 == 6 || p.f4 == 0) && ((p.f5.length : Int) == kidsN p.f0))
def formB (p : S42) : Bool := (p.f0 == 0 || (p.f1.toList == ([] : List UInt8))) && ((p.f0 == 1 || (p.f0 == 3 || noneB p.f2)) && restB p)
theorem l04None_is (e : S39) : spec_l04None.f e.f0 e.f1 e.f2.f0 e.f2.f1 e.f2.f2 e.f3 e.f4 = some (noneB e) := by
  unfold spec_l04None.f noneB
  by_cases h0 : e.f0 = 0
  · by_cases h1 : e.f1 = 0
    · rw [if_pos h0, if_pos h1]
      rw [show (e.f0 == 0) = true from beq_iff_eq.2 h0, show (e.f1 == 0) = true from beq_iff_eq.2 h1, Bool.true_and, Bool.true_and]
      show (if nullB e.f2.f0 e.f2.f1 e.f2.f2 = true then _ else _) = _
      cases nullB e.f2.f0 e.f2.f1 e.f2.f2 with
      | false => rfl
      | true =>
        rw [if_pos rfl, Bool.true_and]
        by_cases h3 : e.f3.toList = ([] : List UInt8)
        · rw [if_pos h3, show (e.f3.toList == ([] : List UInt8)) = true from beq_iff_eq.2 h3, Bool.true_and]
          congr 1
          rw [Bool.eq_iff_iff, beq_iff_eq, decide_eq_true_eq]
          omega
        · rw [if_neg h3, show (e.f3.toList == ([] : List UInt8)) = false from beq_eq_false_iff_ne.2 h3]; rfl
    · rw [if_pos h0, if_neg h1, show (e.f1 == 0) = false from beq_eq_false_iff_ne.2 h1]; simp
  · rw [if_neg h0, show (e.f0 == 0) = false from beq_eq_false_iff_ne.2 h0]; rfl
theorem l04Kids_is (a : Int) : spec_l04Kids.f a = some (kidsN a) := by
  unfold spec_l04Kids.f kidsN
  rw [l01In_is, Option.bind_some]
  by_cases h : 0 ≤ a ∧ a ≤ 6
  · rw [if_pos (decide_eq_true h), Option.bind_some, if_pos h.1, if_pos (by simp; omega), if_pos h]
  · rw [if_neg (by simpa using h), if_neg h]
theorem form_j0 (x : Bool) (p : S42) : Ev (fun k => spec_l04Form.j0 k x p.f0 p.f1 p.f2.f0 p.f2.f1 p.f2.f2.f0 p.f2.f2.f1 p.f2.f2.f2 p.f2.f3 p.f2.f4 p.f3 p.f4 p.f5) (!x && restB p) := by
  have hj := fun (x : Bool) (k : Nat) => (show spec_l04Form.j0 (k + 1) x p.f0 p.f1 p.f2.f0 p.f2.f1 p.f2.f2.f0 p.f2.f2.f1 p.f2.f2.f2 p.f2.f3 p.f2.f4 p.f3 p.f4 p.f5 = ite (x = true) (some false) _ from rfl)
  cases x with
  | true => exact Ev.step (fun k => (hj true k).trans (if_pos rfl)) (ev_some fun _ => rfl)
  | false =>
    have fin : ((spec_l04Kids.f p.f0).bind fun t => some ((p.f5.length : Int) == t)) = some ((p.f5.length : Int) == kidsN p.f0) := by rw [l04Kids_is, Option.bind_some]
    refine Ev.step (fun k => (hj false k).trans (if_neg Bool.false_ne_true)) ?_
    rw [Bool.not_false, Bool.true_and]
    unfold restB
    by_cases h2 : p.f0 = 2
    · have e6 : ¬ p.f0 = 6 := by omega
      rw [show (p.f0 == 2) = true from beq_iff_eq.2 h2, show (p.f0 == 6) = false from beq_eq_false_iff_ne.2 e6, Bool.true_or, Bool.true_and, Bool.false_or]
      refine ev_if_pos h2 (ev_if_neg e6 ?_)
      by_cases h4 : p.f4 = 0
      · rw [show (p.f4 == 0) = true from beq_iff_eq.2 h4, Bool.true_and]
        exact ev_if_pos h4 (ev_some fun _ => fin)
      · rw [show (p.f4 == 0) = false from beq_eq_false_iff_ne.2 h4, Bool.false_and]
        exact ev_if_neg h4 (ev_some fun _ => rfl)
    · rw [show (p.f0 == 2) = false from beq_eq_false_iff_ne.2 h2, Bool.false_or]
      refine ev_if_neg h2 ?_
      by_cases h6 : p.f0 = 6
      · rw [show (p.f0 == 6) = true from beq_iff_eq.2 h6, Bool.true_or, Bool.true_or, Bool.true_and, Bool.true_and]
        exact ev_if_pos h6 (ev_some fun _ => fin)
      · rw [show (p.f0 == 6) = false from beq_eq_false_iff_ne.2 h6, Bool.false_or, Bool.false_or]
        refine ev_if_neg h6 ?_
        by_cases h3 : p.f3.length = 0
        · rw [decide_eq_true h3, Bool.true_and]
          refine ev_if_neg (by omega) ?_
          by_cases h4 : p.f4 = 0
          · rw [show (p.f4 == 0) = true from beq_iff_eq.2 h4, Bool.true_and]
            exact ev_if_pos h4 (ev_some fun _ => fin)
          · rw [show (p.f4 == 0) = false from beq_eq_false_iff_ne.2 h4, Bool.false_and]
            exact ev_if_neg h4 (ev_some fun _ => rfl)
        · rw [decide_eq_false h3, Bool.false_and]
          exact ev_if_pos (by omega) (ev_some fun _ => rfl)
theorem form_is (p : S42) : Ev (fun k => spec_l04Form.f k p.f0 p.f1 p.f2.f0 p.f2.f1 p.f2.f2.f0 p.f2.f2.f1 p.f2.f2.f2 p.f2.f3 p.f2.f4 p.f3 p.f4 p.f5) (formB p) := by
  have jf := form_j0 false p
  have jt := form_j0 true p
  rw [Bool.not_false, Bool.true_and] at jf
  rw [Bool.not_true, Bool.false_and] at jt
  have jn := form_j0 (!(noneB p.f2)) p
  rw [Bool.not_not] at jn
  have hn := l04None_is p.f2
  have mid : Ev (fun k => if p.f0 = 1 then spec_l04Form.j0 k false p.f0 p.f1 p.f2.f0 p.f2.f1 p.f2.f2.f0 p.f2.f2.f1 p.f2.f2.f2 p.f2.f3 p.f2.f4 p.f3 p.f4 p.f5 else (if p.f0 = 3 then spec_l04Form.j0 k false p.f0 p.f1 p.f2.f0 p.f2.f1 p.f2.f2.f0 p.f2.f2.f1 p.f2.f2.f2 p.f2.f3 p.f2.f4 p.f3 p.f4 p.f5 else ((spec_l04None.f p.f2.f0 p.f2.f1 p.f2.f2.f0 p.f2.f2.f1 p.f2.f2.f2 p.f2.f3 p.f2.f4).bind fun t => spec_l04Form.j0 k (!t) p.f0 p.f1 p.f2.f0 p.f2.f1 p.f2.f2.f0 p.f2.f2.f1 p.f2.f2.f2 p.f2.f3 p.f2.f4 p.f3 p.f4 p.f5))) ((p.f0 == 1 || (p.f0 == 3 || noneB p.f2)) && restB p) := by
    by_cases h1 : p.f0 = 1
    · rw [show (p.f0 == 1) = true from beq_iff_eq.2 h1, Bool.true_or, Bool.true_and]
      exact ev_if_pos h1 jf
    · rw [show (p.f0 == 1) = false from beq_eq_false_iff_ne.2 h1, Bool.false_or]
      refine ev_if_neg h1 ?_
      by_cases h3 : p.f0 = 3
      · rw [show (p.f0 == 3) = true from beq_iff_eq.2 h3, Bool.true_or, Bool.true_and]
        exact ev_if_pos h3 jf
      · rw [show (p.f0 == 3) = false from beq_eq_false_iff_ne.2 h3, Bool.false_or]
        exact ev_if_neg h3 (ev_bind0 hn jn)
  unfold formB
  by_cases h0 : p.f0 = 0
  · rw [show (p.f0 == 0) = true from beq_iff_eq.2 h0, Bool.true_or, Bool.true_and]
    exact Ev.congr (fun k => if_pos h0) mid
  · rw [show (p.f0 == 0) = false from beq_eq_false_iff_ne.2 h0, Bool.false_or]
    by_cases hn : p.f1.toList = ([] : List UInt8)
    · rw [show (p.f1.toList == ([] : List UInt8)) = true from beq_iff_eq.2 hn, Bool.true_and]
      exact Ev.congr (fun k => (if_neg h0).trans (if_pos hn)) mid
    · rw [show (p.f1.toList == ([] : List UInt8)) = false from beq_eq_false_iff_ne.2 hn, Bool.false_and]
      exact Ev.congr (fun k => (if_neg h0).trans (if_neg hn)) jt
def finW (p : S42) (a b : Int) : Int × Bool :=
  if p.f0 = 1 then (a, ovB p.f2 a)
  else if p.f0 = 2 then ((p.f3.length : Int), decide ((p.f3.length : Int) > 0) && p.f3.all (fun y => ovB y a))
  else if p.f0 = 3 then (wrap64 (a + b), ovB p.f2 (wrap64 (a + b)))
  else if p.f0 = 4 then (a, a == b)
  else if p.f0 = 6 then (wrap64 (wrap64 (p.f4 + 1) + (p.f3.length : Int)), decide (0 ≤ p.f4 ∧ p.f4 ≤ a) && (decide ((p.f3.length : Int) ≤ 1) && p.f3.all (fun y => ovB y a)))
  else (a, true)
def capW (r : Int × Bool) : Int := if r.2 = true then (if r.1 > 12 then -1 else r.1) else -1
def relW (db : List S68) (p : S42) : Int × Bool := ((relR (findB p.f1 db)).1, (relR (findB p.f1 db)).2.2)
def wid (db : List S68) : Nat → S42 → Int
  | 0, _ => -1
  | m + 1, p => if formB p = true then (if (p.f5.map (wid db m)).any (fun v => decide (v < 0)) = true then -1 else capW (if p.f0 = 0 then relW db p else finW p (rd (p.f5.map (wid db m)) 0) (rd (p.f5.map (wid db m)) 1))) else -1
def gdP (n : Nat) : Nat → S42 → Prop
  | 0, _ => True
  | m + 1, p => gdE n p.f2 ∧ p.f3.length ≤ 1048576 ∧ (∀ y ∈ p.f3, gdE n y) ∧ p.f5.length ≤ 1048576 ∧ ∀ y ∈ p.f5, gdP n m y
theorem cap_pos {r : Int × Bool} (h : r.2 = true) : capW r = if r.1 > 12 then -1 else r.1 := if_pos h
theorem cap_neg {r : Int × Bool} (h : ¬ r.2 = true) : capW r = -1 := if_neg h
theorem ev_cap (x : Int) : Ev (fun _ => if x > 12 then some (-1) else some x) (if x > 12 then -1 else x) := by
  by_cases h : x > 12
  · exact ev_conv (ev_if_pos h (ev_some fun _ => rfl)) (if_pos h).symm
  · exact ev_conv (ev_if_neg h (ev_some fun _ => rfl)) (if_neg h).symm
theorem ev_capB (x : Int) (b : Bool) : Ev (fun _ => if b = true then (if x > 12 then some (-1) else some x) else some (-1)) (capW (x, b)) := by
  cases b with
  | true => rw [cap_pos rfl]; exact ev_if_pos rfl (ev_cap x)
  | false => rw [cap_neg (by simp)]; exact ev_if_neg (by simp) (ev_some fun _ => rfl)
theorem specFin_is (n : Nat) (db : List S68) (hdb : db.length ≤ 1048576) (p : S42) (h1 : gdE n p.f2) (h2 : p.f3.length ≤ 1048576) (h3 : ∀ y ∈ p.f3, gdE n y) (d : Int) (x7 : List Int) (hx : x7.length = 2) (i : Int) (hi : ¬ i < (p.f5.length : Int)) :
    Ev (fun k => spec_l04Width.l0 k db d x7 i p.f0 p.f1 p.f2.f0 p.f2.f1 p.f2.f2.f0 p.f2.f2.f1 p.f2.f2.f2 p.f2.f3 p.f2.f4 p.f3 p.f4 p.f5) (capW (if p.f0 = 0 then relW db p else finW p (rd x7 0) (rd x7 1))) := by
  refine Ev.step (fun k => rfl) (ev_if_neg hi (ev_if_pos (by omega) ?_))
  unfold finW
  by_cases k0 : p.f0 = 0
  · rw [if_pos k0]
    exact ev_if_pos k0 (Ev.bind (l04Rel_is db hdb p.f1) (ev_capB _ _))
  rw [if_neg k0]
  refine ev_if_neg k0 ?_
  by_cases k1 : p.f0 = 1
  · rw [if_pos k1]
    exact ev_if_pos k1 (Ev.bind (l04Below_is n _ h1 _) (ev_capB _ _))
  rw [if_neg k1]
  refine ev_if_neg k1 ?_
  by_cases k2 : p.f0 = 2
  · rw [if_pos k2]
    refine ev_if_pos k2 ?_
    by_cases hl : (p.f3.length : Int) > 0
    · rw [decide_eq_true hl, Bool.true_and]
      exact ev_if_pos hl (Ev.bind (l04All_is n _ h2 h3 _) (ev_capB _ _))
    · rw [decide_eq_false hl, Bool.false_and, cap_neg (by simp)]
      exact ev_if_neg hl (ev_some fun _ => rfl)
  rw [if_neg k2]
  refine ev_if_neg k2 ?_
  by_cases k3 : p.f0 = 3
  · rw [if_pos k3]
    exact ev_if_pos k3 (ev_if_pos (by omega) (Ev.bind (l04Below_is n _ h1 _) (ev_capB _ _)))
  rw [if_neg k3]
  refine ev_if_neg k3 ?_
  by_cases k4 : p.f0 = 4
  · rw [if_pos k4]
    refine ev_if_pos k4 (ev_if_pos (by omega) ?_)
    by_cases hab : rd x7 0 = rd x7 1
    · rw [cap_pos (beq_iff_eq.2 hab)]
      exact ev_if_pos hab (ev_cap _)
    · rw [cap_neg (by simpa using hab)]
      exact ev_if_neg hab (ev_some fun _ => rfl)
  rw [if_neg k4]
  refine ev_if_neg k4 ?_
  by_cases k6 : p.f0 = 6
  · rw [if_pos k6]
    refine ev_if_pos k6 (ev_bind0 (l01In_is _ _ _) ?_)
    by_cases hw : 0 ≤ p.f4 ∧ p.f4 ≤ rd x7 0
    · rw [decide_eq_true hw, Bool.true_and]
      refine ev_if_pos rfl ?_
      by_cases hl : (p.f3.length : Int) ≤ 1
      · rw [decide_eq_true hl, Bool.true_and]
        exact ev_if_pos hl (Ev.bind (l04All_is n _ h2 h3 _) (ev_capB _ _))
      · rw [decide_eq_false hl, Bool.false_and, cap_neg (by simp)]
        exact ev_if_neg hl (ev_some fun _ => rfl)
    · rw [decide_eq_false hw, Bool.false_and, cap_neg (by simp)]
      exact ev_if_neg (by simp) (ev_some fun _ => rfl)
  · rw [if_neg k6, cap_pos rfl]
    exact ev_if_neg k6 (ev_cap _)
theorem kidsN_le (a : Int) : kidsN a ≤ 2 := by
  unfold kidsN
  split
  · rename_i h
    obtain ⟨h0, h6⟩ := h
    have : a = 0 ∨ a = 1 ∨ a = 2 ∨ a = 3 ∨ a = 4 ∨ a = 5 ∨ a = 6 := by omega
    rcases this with rfl | rfl | rfl | rfl | rfl | rfl | rfl <;> decide
  · decide
theorem form_kids {p : S42} (h : formB p = true) : (p.f5.length : Int) = kidsN p.f0 := by
  unfold formB restB at h
  simp only [Bool.and_eq_true, beq_iff_eq] at h
  exact h.2.2.2.2
theorem widthJ_true (db : List S68) (d : Int) (p : S42) : Ev (fun k => spec_l04Width.j0 k db d true p.f0 p.f1 p.f2.f0 p.f2.f1 p.f2.f2.f0 p.f2.f2.f1 p.f2.f2.f2 p.f2.f3 p.f2.f4 p.f3 p.f4 p.f5) (-1) := by
  have hj := fun (x : Bool) (k : Nat) => (show spec_l04Width.j0 (k + 1) db d x p.f0 p.f1 p.f2.f0 p.f2.f1 p.f2.f2.f0 p.f2.f2.f1 p.f2.f2.f2 p.f2.f3 p.f2.f4 p.f3 p.f4 p.f5 = ite (x = true) (some (-1)) _ from rfl)
  exact Ev.step (fun k => (hj true k).trans (if_pos rfl)) (ev_some fun _ => rfl)
theorem width_neg (db : List S68) (d : Int) (hd : d < 0) (p : S42) : Ev (fun k => spec_l04Width.f k db p.f0 p.f1 p.f2.f0 p.f2.f1 p.f2.f2.f0 p.f2.f2.f1 p.f2.f2.f2 p.f2.f3 p.f2.f4 p.f3 p.f4 p.f5 d) (-1) := Ev.step (fun k => rfl) (ev_if_pos hd (widthJ_true db d p))
theorem specWidth_is (n : Nat) (db : List S68) (hdb : db.length ≤ 1048576) : ∀ (m : Nat) (p : S42), m ≤ 9 → gdP n m p → Ev (fun k => spec_l04Width.f k db p.f0 p.f1 p.f2.f0 p.f2.f1 p.f2.f2.f0 p.f2.f2.f1 p.f2.f2.f2 p.f2.f3 p.f2.f4 p.f3 p.f4 p.f5 ((m : Int) - 1)) (wid db m p)
  | 0, p, _, _ => by
    have hw : wid db 0 p = -1 := rfl
    rw [hw]
    exact width_neg db _ (by omega) p
  | m + 1, p, hm, hg => by
    obtain ⟨g1, g2, g3, g4, g5⟩ := hg
    refine Ev.step (fun k => rfl) (ev_if_neg (by omega) (Ev.bind (form_is p) ?_))
    have ed : wrap64 (((m + 1 : Nat) : Int) - 1 - 1) = (m : Int) - 1 := by rw [wrap_id (by omega) (by omega)]; omega
    have kid : ∀ y ∈ p.f5, Ev (fun k => spec_l04Width.f k db y.f0 y.f1 y.f2.f0 y.f2.f1 y.f2.f2.f0 y.f2.f2.f1 y.f2.f2.f2 y.f2.f3 y.f2.f4 y.f3 y.f4 y.f5 ((m : Int) - 1)) (wid db m y) := fun y hy => specWidth_is n db hdb m y (by omega) (g5 y hy)
    unfold wid
    by_cases hf : formB p = true
    case neg =>
      rw [if_neg hf, Bool.eq_false_iff.2 hf]
      exact widthJ_true db _ p
    rw [if_pos hf, hf]
    have hk := form_kids hf
    have hk2 := kidsN_le p.f0
    have hj := fun (k : Nat) => (show spec_l04Width.j0 (k + 1) db (((m + 1 : Nat) : Int) - 1) (!true) p.f0 p.f1 p.f2.f0 p.f2.f1 p.f2.f2.f0 p.f2.f2.f1 p.f2.f2.f2 p.f2.f3 p.f2.f4 p.f3 p.f4 p.f5 = ite ((!true) = true) (some (-1)) (spec_l04Width.l0 k db (((m + 1 : Nat) : Int) - 1) [0, 0] 0 p.f0 p.f1 p.f2.f0 p.f2.f1 p.f2.f2.f0 p.f2.f2.f1 p.f2.f2.f2 p.f2.f3 p.f2.f4 p.f3 p.f4 p.f5) from rfl)
    refine Ev.step (fun k => (hj k).trans (if_neg Bool.false_ne_true)) ?_
    have fin := fun x7 hx i hi => specFin_is n db hdb p g1 g2 g3 (((m + 1 : Nat) : Int) - 1) x7 hx i hi
    have step : ∀ (i : Nat) (y : S42) (a b : Int) (r : Int), i < 2 → i < p.f5.length → p.f5.getD i z42 = y → (wid db m y < 0 → r = -1) → (¬ wid db m y < 0 → Ev (fun k => spec_l04Width.l0 k db (((m + 1 : Nat) : Int) - 1) ([a, b].set i (wid db m y)) ((i + 1 : Nat) : Int) p.f0 p.f1 p.f2.f0 p.f2.f1 p.f2.f2.f0 p.f2.f2.f1 p.f2.f2.f2 p.f2.f3 p.f2.f4 p.f3 p.f4 p.f5) r) → Ev (fun k => spec_l04Width.l0 k db (((m + 1 : Nat) : Int) - 1) [a, b] (i : Int) p.f0 p.f1 p.f2.f0 p.f2.f1 p.f2.f2.f0 p.f2.f2.f1 p.f2.f2.f2 p.f2.f3 p.f2.f4 p.f3 p.f4 p.f5) r := by
      intro i y a b r hi2 hi hy hneg hpos
      have hmem : y ∈ p.f5 := by rw [← hy]; exact getD_mem z42 hi
      have e : rd_T42 p.f5 (i : Int) = y := by unfold rd_T42; rw [Int.toNat_natCast]; exact hy
      refine Ev.step (fun k => rfl) (ev_if_pos (by omega) (ev_if_pos (by omega) ?_))
      rw [e, ed]
      refine Ev.bind (kid y hmem) (ev_if_pos (by simp; omega) (ev_bind0 rfl ?_))
      rw [Int.toNat_natCast]
      have er : rd ([a, b].set i (wid db m y)) (i : Int) = wid db m y := by
        unfold rd
        rw [Int.toNat_natCast]
        have : i = 0 ∨ i = 1 := by omega
        rcases this with rfl | rfl <;> rfl
      rw [er]
      by_cases hv : wid db m y < 0
      · rw [hneg hv]
        exact ev_if_pos hv (ev_some fun _ => rfl)
      · refine ev_if_neg hv ?_
        rw [wrap_succ hi (by omega)]
        exact hpos hv
    match hp : p.f5, hk with
    | [], hk =>
      have h := fin [0, 0] rfl 0 (by rw [hp]; simp)
      rw [hp] at h
      exact h
    | [y], hk =>
      have hl : p.f5.length = 1 := by rw [hp]; rfl
      have h := step 0 y 0 0 (if ([y].map (wid db m)).any (fun v => decide (v < 0)) = true then -1 else capW (if p.f0 = 0 then relW db p else finW p (rd ([y].map (wid db m)) 0) (rd ([y].map (wid db m)) 1))) (by omega) (by omega) (by rw [hp]; rfl) (fun hv => if_pos (by simp [hv])) (fun hv => by
        rw [if_neg (by simp; omega)]
        exact fin [wid db m y, 0] rfl 1 (by rw [hl]; simp))
      rw [hp] at h
      exact h
    | [y, z], hk =>
      have hl : p.f5.length = 2 := by rw [hp]; rfl
      have h := step 0 y 0 0 (if ([y, z].map (wid db m)).any (fun v => decide (v < 0)) = true then -1 else capW (if p.f0 = 0 then relW db p else finW p (rd ([y, z].map (wid db m)) 0) (rd ([y, z].map (wid db m)) 1))) (by omega) (by omega) (by rw [hp]; rfl) (fun hv => if_pos (by simp [hv])) (fun hv => by
        refine step 1 z (wid db m y) 0 _ (by omega) (by omega) (by rw [hp]; rfl) (fun hv2 => if_pos (by simp [hv2])) (fun hv2 => ?_)
        rw [if_neg (by simp; omega)]
        exact fin [wid db m y, wid db m z] rfl 2 (by rw [hl]; simp))
      rw [hp] at h
      exact h
    | _ :: _ :: _ :: _, hk => simp only [List.length_cons] at hk; omega
theorem sameZ_is (e : S39) (hl : e.f4.length ≤ 1048576) : Ev (fun k => impl_SameExp.f k e.f0 e.f1 e.f2.f0 e.f2.f1 e.f2.f2 e.f3 e.f4 0 0 0 0 (⟨#[]⟩ : ByteArray) (⟨#[]⟩ : ByteArray) ([] : List S39)) (noneB e) := by
  have hjx := fun (x : Bool) (k : Nat) => (show impl_sameExp.j0 (k + 1) 0 x e.f0 e.f1 e.f2.f0 e.f2.f1 e.f2.f2 e.f3 e.f4 0 0 0 0 (⟨#[]⟩ : ByteArray) (⟨#[]⟩ : ByteArray) ([] : List S39) = ite (x = true) (some false) _ from rfl)
  have hjt : Ev (fun k => impl_sameExp.j0 k 0 true e.f0 e.f1 e.f2.f0 e.f2.f1 e.f2.f2 e.f3 e.f4 0 0 0 0 (⟨#[]⟩ : ByteArray) (⟨#[]⟩ : ByteArray) ([] : List S39)) false := Ev.step (fun k => (hjx true k).trans (if_pos rfl)) (ev_some fun _ => rfl)
  have nl : (⟨#[]⟩ : ByteArray).toList = ([] : List UInt8) := toList_mkB []
  have one : Ev (fun k => impl_sameExp.f k e.f0 e.f1 e.f2.f0 e.f2.f1 e.f2.f2 e.f3 e.f4 0 0 0 0 (⟨#[]⟩ : ByteArray) (⟨#[]⟩ : ByteArray) ([] : List S39) 0) (noneB e) := by
    unfold noneB
    by_cases h0 : e.f0 = 0
    case neg =>
      rw [show (e.f0 == 0) = false from beq_eq_false_iff_ne.2 h0, Bool.false_and]
      exact Ev.step (fun k => rfl) (ev_if_neg h0 hjt)
    rw [show (e.f0 == 0) = true from beq_iff_eq.2 h0, Bool.true_and]
    by_cases h1 : e.f1 = 0
    case neg =>
      rw [show (e.f1 == 0) = false from beq_eq_false_iff_ne.2 h1, Bool.false_and]
      exact Ev.step (fun k => rfl) (ev_if_pos h0 (ev_if_neg h1 hjt))
    rw [show (e.f1 == 0) = true from beq_iff_eq.2 h1, Bool.true_and]
    have hv : (!(e.f2.f0 == 0) || (!(e.f2.f1 == 0) || (!(e.f2.f2.toList == (⟨#[]⟩ : ByteArray).toList)))) = !nullB e.f2.f0 e.f2.f1 e.f2.f2 := by
      rw [nl]
      unfold nullB
      cases (e.f2.f0 == 0) <;> cases (e.f2.f1 == 0) <;> cases (e.f2.f2.toList == ([] : List UInt8)) <;> rfl
    by_cases h2 : nullB e.f2.f0 e.f2.f1 e.f2.f2 = true
    case neg =>
      rw [Bool.eq_false_iff.2 h2, Bool.false_and]
      exact Ev.step (fun k => rfl) (ev_if_pos h0 (ev_if_pos h1 (ev_if_pos (by rw [hv, Bool.eq_false_iff.2 h2]; rfl) hjt)))
    rw [h2, Bool.true_and]
    by_cases h3 : e.f3.toList = ([] : List UInt8)
    case neg =>
      rw [show (e.f3.toList == ([] : List UInt8)) = false from beq_eq_false_iff_ne.2 h3, Bool.false_and]
      exact Ev.step (fun k => rfl) (ev_if_pos h0 (ev_if_pos h1 (ev_if_neg (by rw [hv, h2]; simp) (ev_if_neg (by rw [nl]; exact h3) hjt))))
    rw [show (e.f3.toList == ([] : List UInt8)) = true from beq_iff_eq.2 h3, Bool.true_and]
    by_cases h4 : e.f4.length = 0
    case neg =>
      rw [decide_eq_false h4]
      exact Ev.step (fun k => rfl) (ev_if_pos h0 (ev_if_pos h1 (ev_if_neg (by rw [hv, h2]; simp) (ev_if_pos (by rw [nl]; exact h3) (ev_if_neg (by simpa using h4) hjt)))))
    rw [decide_eq_true h4]
    have hd : decide ((0 : Int) > 40) = false := by decide
    have l0 : Ev (fun k => impl_sameExp.l0 k 0 (e.f4.length : Int) 0 e.f0 e.f1 e.f2.f0 e.f2.f1 e.f2.f2 e.f3 e.f4 0 0 0 0 (⟨#[]⟩ : ByteArray) (⟨#[]⟩ : ByteArray) ([] : List S39)) true := Ev.step (fun k => rfl) (ev_if_neg (by omega) (ev_some fun _ => rfl))
    have jf : Ev (fun k => impl_sameExp.j0 k 0 (decide ((0 : Int) > 40)) e.f0 e.f1 e.f2.f0 e.f2.f1 e.f2.f2 e.f3 e.f4 0 0 0 0 (⟨#[]⟩ : ByteArray) (⟨#[]⟩ : ByteArray) ([] : List S39)) true := by
      rw [hd]
      exact Ev.step (fun k => (hjx false k).trans (if_neg Bool.false_ne_true)) l0
    exact Ev.step (fun k => rfl) (ev_if_pos h0 (ev_if_pos h1 (ev_if_neg (by rw [hv, h2]; simp) (ev_if_pos (by rw [nl]; exact h3) (ev_if_pos (by simpa using h4) jf)))))
  exact Ev.congr (fun k => rfl) (Ev.bind one (f := fun k t => some t) (ev_some fun _ => rfl))
def noneH (p : S42) (a1 a2 a3 a4 : Bool) : Bool := (!a1 || (p.f1.toList == ([] : List UInt8))) && ((!a2 || noneB p.f2) && ((!a3 || decide (p.f3.length = 0)) && (!a4 || p.f4 == 0)))
theorem hasNone_is (p : S42) (hl : p.f2.f4.length ≤ 1048576) (a1 a2 a3 a4 : Bool) : Ev (fun k => impl_Plan_hasNone.f k p.f0 p.f1 p.f2.f0 p.f2.f1 p.f2.f2.f0 p.f2.f2.f1 p.f2.f2.f2 p.f2.f3 p.f2.f4 p.f3 p.f4 p.f5 a1 a2 a3 a4) (noneH p a1 a2 a3 a4) := by
  have hs := sameZ_is p.f2 hl
  have tail : (if a3 = true then (if (p.f3.length : Int) > 0 then (some (!true)) else (if a4 = true then (some (!(p.f4 != 0))) else (some (!false)))) else (if a4 = true then (some (!(p.f4 != 0))) else (some (!false)))) = some ((!a3 || decide (p.f3.length = 0)) && (!a4 || p.f4 == 0)) := by
    have e4 : (if a4 = true then (some (!(p.f4 != 0))) else (some (!false))) = some (!a4 || p.f4 == 0) := by
      cases a4 with
      | true => rw [if_pos rfl]; simp [bne]
      | false => rfl
    rw [e4]
    cases a3 with
    | false => rfl
    | true =>
      rw [if_pos rfl]
      by_cases h : p.f3.length = 0
      · rw [if_neg (by omega), decide_eq_true h]; rfl
      · rw [if_pos (by omega), decide_eq_false h]; rfl
  have mid : Ev (fun k => if a2 = true then ((impl_SameExp.f k p.f2.f0 p.f2.f1 p.f2.f2.f0 p.f2.f2.f1 p.f2.f2.f2 p.f2.f3 p.f2.f4 0 0 0 0 (⟨#[]⟩ : ByteArray) (⟨#[]⟩ : ByteArray) ([] : List S39)).bind fun t => (if t = true then some ((!a3 || decide (p.f3.length = 0)) && (!a4 || p.f4 == 0)) else some (!true))) else some ((!a3 || decide (p.f3.length = 0)) && (!a4 || p.f4 == 0))) ((!a2 || noneB p.f2) && ((!a3 || decide (p.f3.length = 0)) && (!a4 || p.f4 == 0))) := by
    cases a2 with
    | false => exact ev_if_neg (by simp) (ev_some fun _ => rfl)
    | true =>
      refine ev_if_pos rfl (Ev.bind hs ?_)
      cases noneB p.f2 with
      | true => exact ev_if_pos rfl (ev_some fun _ => rfl)
      | false => exact ev_if_neg (by simp) (ev_some fun _ => rfl)
  unfold impl_Plan_hasNone.f noneH
  simp only [tail]
  cases a1 with
  | false => exact ev_if_neg (by simp) mid
  | true =>
    refine ev_if_pos rfl ?_
    by_cases hn : p.f1.toList = ([] : List UInt8)
    · rw [show (p.f1.toList == ([] : List UInt8)) = true from beq_iff_eq.2 hn]
      exact ev_if_pos hn mid
    · rw [show (p.f1.toList == ([] : List UInt8)) = false from beq_eq_false_iff_ne.2 hn]
      exact ev_if_neg hn (ev_some fun _ => rfl)
theorem kids_loop (E_ : List S68 → Int → ByteArray → Int → Int → Int → Int → ByteArray → ByteArray → List S39 → List S39 → Int → List S42 → Int → Option Int) (db : List S68) (d : Int) (l : List S42) (v : S42 → Int) (hl : l.length ≤ 1048576)
    (hE : ∀ y ∈ l, E_ db y.f0 y.f1 y.f2.f0 y.f2.f1 y.f2.f2.f0 y.f2.f2.f1 y.f2.f2.f2 y.f2.f3 y.f2.f4 y.f3 y.f4 y.f5 (wrap64 (d + 1)) = some (v y)) :
    ∀ (q i : Nat) (acc : List Int) (k : Nat), l.length - i = q → i ≤ l.length → acc.length = i → q < k → impl_Plan_kids.l0 E_ k db d acc l (l.length : Int) (i : Int) = some (if ((l.drop i).map v).any (fun x => decide (x < 0)) = true then ([], false) else (acc ++ (l.drop i).map v, true)) := by
  intro q
  induction q with
  | zero =>
    intro i acc k h1 h2 h3 hk
    obtain ⟨k, rfl⟩ : ∃ m, k = m + 1 := ⟨k - 1, by omega⟩
    rw [List.drop_eq_nil_of_le (show l.length ≤ i by omega)]
    show (if (i : Int) < (l.length : Int) then _ else some (acc, true)) = _
    rw [if_neg (by omega)]
    simp
  | succ q ih =>
    intro i acc k h1 h2 h3 hk
    obtain ⟨k, rfl⟩ : ∃ m, k = m + 1 := ⟨k - 1, by omega⟩
    have hi : i < l.length := by omega
    have e : rd_T42 l (i : Int) = l.getD i z42 := by unfold rd_T42; rw [Int.toNat_natCast]
    have hy := hE _ (getD_mem z42 hi)
    rw [drop_cons_getD z42 hi, List.map_cons, List.any_cons]
    generalize hz : l.getD i z42 = y at *
    simp only [impl_Plan_kids.l0]
    rw [if_pos (by omega), if_pos (by omega), if_pos (by omega), e, hy, Option.bind_some, wrap_succ hi (by omega)]
    by_cases hv : v y < 0
    · rw [if_pos hv, decide_eq_true hv, Bool.true_or, if_pos rfl]
    · rw [if_neg hv, if_pos (by omega), ih (i + 1) (acc ++ [v y]) k (by omega) (by omega) (by rw [List.length_append]; simp; omega) (by omega), decide_eq_false hv, Bool.false_or, List.append_assoc]
      rfl
def wOut (p : S42) (db : List S68) (ks : List Int) : Int × Bool :=
  if p.f0 = 0 then ((relR (findB p.f1 db)).1, (relR (findB p.f1 db)).2.2 && (noneH p false true true true && decide (p.f5.length = 0)))
  else if (p.f5.length : Int) = (if p.f0 = 3 ∨ p.f0 = 4 then 2 else 1) then
    (if ks.any (fun x => decide (x < 0)) = true then (0, false)
     else if p.f0 = 1 then (rd ks 0, noneH p true false true true && ovB p.f2 (rd ks 0))
     else if p.f0 = 2 then ((p.f3.length : Int), noneH p true true false true && (decide ((p.f3.length : Int) > 0) && p.f3.all (fun y => ovB y (rd ks 0))))
     else if p.f0 = 3 then (wrap64 (rd ks 0 + rd ks 1), noneH p true false true true && ovB p.f2 (wrap64 (rd ks 0 + rd ks 1)))
     else if p.f0 = 4 then (rd ks 0, noneH p true true true true && (rd ks 0 == rd ks 1))
     else if p.f0 = 5 then (rd ks 0, noneH p true true true true)
     else if p.f0 = 6 then (wrap64 (wrap64 (p.f4 + 1) + (p.f3.length : Int)), noneH p true true false false && (decide (0 ≤ p.f4 ∧ p.f4 ≤ rd ks 0) && (decide ((p.f3.length : Int) ≤ 1) && p.f3.all (fun y => ovB y (rd ks 0)))))
     else (0, false))
  else (0, false)
theorem ev_andB {g : Nat → Option Bool} {f : Nat → Option (Int × Bool)} {x : Int} {a b : Bool} (h : Ev g a) (hf : a = true → Ev f (x, b)) : Ev (fun k => (g k).bind fun t => if t = true then f k else some (x, false)) (x, a && b) := by
  refine Ev.bind h ?_
  cases a with
  | true => exact ev_if_pos rfl (hf rfl)
  | false => exact ev_if_neg (by simp) (ev_some fun _ => rfl)
theorem ev_pairB {g : Nat → Option Bool} {x : Int} {a : Bool} (h : Ev g a) : Ev (fun k => (g k).bind fun t => some (x, t)) (x, a) := Ev.bind h (ev_some fun _ => rfl)
theorem ev_ifB {f : Nat → Option (Int × Bool)} {x : Int} {c : Prop} [Decidable c] {b : Bool} (hf : c → Ev f (x, b)) : Ev (fun k => if c then f k else some (x, false)) (x, decide c && b) := by
  by_cases h : c
  · rw [decide_eq_true h, Bool.true_and]; exact ev_if_pos h (hf h)
  · rw [decide_eq_false h, Bool.false_and]; exact ev_if_neg h (ev_some fun _ => rfl)
theorem widthJ_is (n : Nat) (db : List S68) (p : S42) (d many : Int) (v : S42 → Int) (g1 : gdE n p.f2) (g3 : ∀ y ∈ p.f3, gdE n y) (g4 : p.f5.length ≤ 1048576) (k0 : ¬ p.f0 = 0) (hmany : many = if p.f0 = 3 ∨ p.f0 = 4 then 2 else 1)
    (hE : ∃ K, ∀ k, K ≤ k → ∀ y ∈ p.f5, impl_width.f k db y.f0 y.f1 y.f2.f0 y.f2.f1 y.f2.f2.f0 y.f2.f2.f1 y.f2.f2.f2 y.f2.f3 y.f2.f4 y.f3 y.f4 y.f5 (wrap64 (d + 1)) = some (v y)) :
    Ev (fun k => impl_Plan_widthOf.j0 (impl_width.f k) k db d many p.f0 p.f1 p.f2.f0 p.f2.f1 p.f2.f2.f0 p.f2.f2.f1 p.f2.f2.f2 p.f2.f3 p.f2.f4 p.f3 p.f4 p.f5) (wOut p db (p.f5.map v)) := by
  have hl2 : p.f2.f4.length ≤ 1048576 := g1.2.2.2.2.2.1
  have kids : Ev (fun k => impl_Plan_kids.f (impl_width.f (k + 1)) k p.f0 p.f1 p.f2.f0 p.f2.f1 p.f2.f2.f0 p.f2.f2.f1 p.f2.f2.f2 p.f2.f3 p.f2.f4 p.f3 p.f4 p.f5 db d many) (if (p.f5.length : Int) = many then (if (p.f5.map v).any (fun x => decide (x < 0)) = true then ([], false) else (p.f5.map v, true)) else ([], false)) := by
    by_cases hm : (p.f5.length : Int) = many
    · rw [if_pos hm]
      obtain ⟨K, hK⟩ := hE
      refine ⟨max K (p.f5.length + 1), fun k hk => ?_⟩
      have h := kids_loop (impl_width.f (k + 1)) db d p.f5 v g4 (hK (k + 1) (by omega)) p.f5.length 0 [] k (by omega) (by omega) rfl (by omega)
      rw [List.drop_zero, List.nil_append] at h
      exact (if_pos hm).trans h
    · rw [if_neg hm]
      exact Ev.congr (fun k => if_neg hm) (ev_some fun _ => rfl)
  unfold wOut
  rw [if_neg k0, ← hmany]
  refine Ev.step (fun k => rfl) (Ev.bind kids ?_)
  by_cases hm : (p.f5.length : Int) = many
  case neg =>
    rw [if_neg hm, if_neg hm]
    exact ev_if_neg (by simp) (ev_some fun _ => rfl)
  rw [if_pos hm, if_pos hm]
  by_cases ha : (p.f5.map v).any (fun x => decide (x < 0)) = true
  · rw [if_pos ha, if_pos ha]
    exact ev_if_neg (by simp) (ev_some fun _ => rfl)
  rw [if_neg ha, if_neg ha]
  have hml : (p.f5.map v).length = p.f5.length := by simp
  have hm1 : 1 ≤ many := by rw [hmany]; split <;> omega
  generalize p.f5.map v = ks at *
  refine ev_if_pos rfl (ev_if_pos (by show 0 < (ks.length : Int); omega) ?_)
  dsimp only
  by_cases k1 : p.f0 = 1
  · rw [if_pos k1]
    exact ev_if_pos k1 (ev_andB (hasNone_is p hl2 _ _ _ _) fun _ => ev_pairB (isOver_is n _ g1 _))
  rw [if_neg k1]
  refine ev_if_neg k1 ?_
  by_cases k2 : p.f0 = 2
  · rw [if_pos k2]
    exact ev_if_pos k2 (ev_andB (hasNone_is p hl2 _ _ _ _) fun _ => ev_ifB fun _ => ev_pairB (overAll_is n _ g3 _))
  rw [if_neg k2]
  refine ev_if_neg k2 ?_
  by_cases k3 : p.f0 = 3
  · rw [if_pos k3]
    have h2 : many = 2 := by rw [hmany, if_pos (Or.inl k3)]
    exact ev_if_pos k3 (ev_if_pos (by omega) (ev_andB (hasNone_is p hl2 _ _ _ _) fun _ => ev_pairB (isOver_is n _ g1 _)))
  rw [if_neg k3]
  refine ev_if_neg k3 ?_
  by_cases k4 : p.f0 = 4
  · rw [if_pos k4]
    have h2 : many = 2 := by rw [hmany, if_pos (Or.inr k4)]
    exact ev_if_pos k4 (ev_andB (hasNone_is p hl2 _ _ _ _) fun _ => ev_if_pos (by omega) (ev_some fun _ => rfl))
  rw [if_neg k4]
  refine ev_if_neg k4 ?_
  by_cases k5 : p.f0 = 5
  · rw [if_pos k5]
    exact ev_if_pos k5 (ev_pairB (hasNone_is p hl2 _ _ _ _))
  rw [if_neg k5]
  refine ev_if_neg k5 ?_
  by_cases k6 : p.f0 = 6
  · rw [if_pos k6]
    have hwi : impl_within.f p.f4 0 (rd ks 0) = some (decide (0 ≤ p.f4 ∧ p.f4 ≤ rd ks 0)) := by
      unfold impl_within.f
      by_cases h : 0 ≤ p.f4 <;> simp [h]
    exact ev_if_pos k6 (ev_andB (hasNone_is p hl2 _ _ _ _) fun _ => ev_andB (ev_some fun _ => hwi) fun _ => ev_ifB fun _ => ev_pairB (overAll_is n _ g3 _))
  rw [if_neg k6]
  exact ev_if_neg k6 (ev_some fun _ => rfl)
theorem widthOf_is (n : Nat) (db : List S68) (p : S42) (d : Int) (hd : ¬ d > 8) (v : S42 → Int) (g1 : gdE n p.f2) (g3 : ∀ y ∈ p.f3, gdE n y) (g4 : p.f5.length ≤ 1048576)
    (hE : ∃ K, ∀ k, K ≤ k → ∀ y ∈ p.f5, impl_width.f k db y.f0 y.f1 y.f2.f0 y.f2.f1 y.f2.f2.f0 y.f2.f2.f1 y.f2.f2.f2 y.f2.f3 y.f2.f4 y.f3 y.f4 y.f5 (wrap64 (d + 1)) = some (v y)) :
    Ev (fun k => impl_Plan_widthOf.f (impl_width.f k) k p.f0 p.f1 p.f2.f0 p.f2.f1 p.f2.f2.f0 p.f2.f2.f1 p.f2.f2.f2 p.f2.f3 p.f2.f4 p.f3 p.f4 p.f5 db d) (wOut p db (p.f5.map v)) := by
  have hl2 : p.f2.f4.length ≤ 1048576 := g1.2.2.2.2.2.1
  refine Ev.congr (fun k => if_neg hd) ?_
  by_cases k0 : p.f0 = 0
  · refine ev_if_pos k0 (ev_bind0 (findRel_is db p.f1) ?_)
    unfold wOut
    rw [if_pos k0]
    have e1 : (relI (findB p.f1 db)).2.1 = (relR (findB p.f1 db)).1 := by cases findB p.f1 db <;> rfl
    have e2 : (relI (findB p.f1 db)).2.2.2 = (relR (findB p.f1 db)).2.2 := by cases findB p.f1 db <;> rfl
    rw [e1, e2]
    cases (relR (findB p.f1 db)).2.2 with
    | false => exact ev_if_neg (by simp) (ev_some fun _ => rfl)
    | true =>
      refine ev_if_pos rfl (ev_conv (ev_andB (b := decide (p.f5.length = 0)) (hasNone_is p hl2 _ _ _ _) fun _ => ev_some fun _ => ?_) (by rw [Bool.true_and]))
      congr 2
      rw [Bool.eq_iff_iff, beq_iff_eq, decide_eq_true_eq]
      omega
  · refine ev_if_neg k0 ?_
    by_cases k3 : p.f0 = 3
    · exact ev_if_pos k3 (widthJ_is n db p d 2 v g1 g3 g4 k0 (by rw [if_pos (Or.inl k3)]) hE)
    · refine ev_if_neg k3 ?_
      by_cases k4 : p.f0 = 4
      · exact ev_if_pos k4 (widthJ_is n db p d 2 v g1 g3 g4 k0 (by rw [if_pos (Or.inr k4)]) hE)
      · exact ev_if_neg k4 (widthJ_is n db p d 1 v g1 g3 g4 k0 (by rw [if_neg (by rintro (h | h); exact k3 h; exact k4 h)]) hE)
theorem kidsN_one {a : Int} (h : a = 1 ∨ a = 2 ∨ a = 5 ∨ a = 6) : kidsN a = 1 := by rcases h with rfl | rfl | rfl | rfl <;> decide
theorem kidsN_two {a : Int} (h : a = 3 ∨ a = 4) : kidsN a = 2 := by rcases h with rfl | rfl <;> decide
theorem kidsN_not {a : Int} (h0 : ¬ a = 0) (h1 : ¬ a = 1) (h2 : ¬ a = 2) (h3 : ¬ a = 3) (h4 : ¬ a = 4) (h5 : ¬ a = 5) (h6 : ¬ a = 6) : kidsN a = -1 := by
  unfold kidsN
  rw [if_neg (by omega)]
theorem cap_eq {x : Int} {f a b : Bool} (h : a = (f && b)) : capW (x, a) = if f = true then capW (x, b) else -1 := by
  subst h
  cases f with
  | true => rw [if_pos rfl, Bool.true_and]
  | false => rw [if_neg (by simp)]; rfl
theorem wOut_is (db : List S68) (p : S42) (ks : List Int) (hks : ks.length = p.f5.length) : capW (wOut p db ks) = if formB p = true then (if ks.any (fun v => decide (v < 0)) = true then -1 else capW (if p.f0 = 0 then relW db p else finW p (rd ks 0) (rd ks 1))) else -1 := by
  unfold wOut
  have nf : ∀ {f : Bool} {x : Int}, (¬ f = true → x = -1) → (if f = true then x else -1) = x := by
    intro f x h
    cases f with
    | true => rfl
    | false => exact (h (by simp)).symm
  have cz : capW (0, false) = -1 := rfl
  by_cases k0 : p.f0 = 0
  · rw [if_pos k0, if_pos k0]
    have e : formB p = (noneH p false true true true && decide (p.f5.length = 0)) := by
      unfold formB restB noneH
      have h2 : ((p.f5.length : Int) == 0) = decide (p.f5.length = 0) := by rw [Bool.eq_iff_iff, beq_iff_eq, decide_eq_true_eq]; omega
      rw [k0, show kidsN 0 = 0 from rfl, h2]
      cases noneB p.f2 <;> cases decide (p.f3.length = 0) <;> cases (p.f4 == 0) <;> cases decide (p.f5.length = 0) <;> rfl
    rw [e]
    by_cases hf : (noneH p false true true true && decide (p.f5.length = 0)) = true
    · rw [if_pos hf, hf, Bool.and_true]
      have hz : ks = [] := List.length_eq_zero_iff.1 (by rw [hks]; have := (Bool.and_eq_true _ _ ▸ hf).2; exact of_decide_eq_true this)
      rw [hz, if_neg (by simp)]
      rfl
    · rw [if_neg hf, Bool.eq_false_iff.2 hf, Bool.and_false]
      rfl
  rw [if_neg k0, if_neg k0]
  by_cases hm : (p.f5.length : Int) = (if p.f0 = 3 ∨ p.f0 = 4 then 2 else 1)
  case neg =>
    rw [if_neg hm, cz, if_neg]
    intro hf
    have hk := form_kids hf
    apply hm
    rw [hk]
    by_cases h34 : p.f0 = 3 ∨ p.f0 = 4
    · rw [if_pos h34, kidsN_two h34]
    · rw [if_neg h34]
      by_cases h1 : p.f0 = 1 ∨ p.f0 = 2 ∨ p.f0 = 5 ∨ p.f0 = 6
      · rw [kidsN_one h1]
      · rw [kidsN_not k0 (fun h => h1 (Or.inl h)) (fun h => h1 (Or.inr (Or.inl h))) (fun h => h34 (Or.inl h)) (fun h => h34 (Or.inr h)) (fun h => h1 (Or.inr (Or.inr (Or.inl h)))) (fun h => h1 (Or.inr (Or.inr (Or.inr h))))] at hk
        omega
  rw [if_pos hm]
  by_cases ha : ks.any (fun x => decide (x < 0)) = true
  · rw [if_pos ha, if_pos ha, cz]
    split <;> rfl
  rw [if_neg ha, if_neg ha]
  unfold finW
  have fk : ∀ c : Int, kidsN p.f0 = c → (p.f5.length : Int) = c → ((p.f5.length : Int) == kidsN p.f0) = true := fun c h1 h2 => by rw [h1, h2]; exact beq_self_eq_true c
  by_cases k1 : p.f0 = 1
  · rw [if_neg (by omega)] at hm
    rw [if_pos k1, if_pos k1]
    refine cap_eq ?_
    unfold formB restB noneH
    rw [fk 1 (kidsN_one (Or.inl k1)) hm, k1]
    cases (p.f1.toList == ([] : List UInt8)) <;> cases decide (p.f3.length = 0) <;> cases (p.f4 == 0) <;> cases noneB p.f2 <;> rfl
  rw [if_neg k1, if_neg k1]
  by_cases k2 : p.f0 = 2
  · rw [if_neg (by omega)] at hm
    rw [if_pos k2, if_pos k2]
    refine cap_eq ?_
    unfold formB restB noneH
    rw [fk 1 (kidsN_one (Or.inr (Or.inl k2))) hm, k2]
    cases (p.f1.toList == ([] : List UInt8)) <;> cases decide (p.f3.length = 0) <;> cases (p.f4 == 0) <;> cases noneB p.f2 <;> rfl
  rw [if_neg k2, if_neg k2]
  by_cases k3 : p.f0 = 3
  · rw [if_pos (Or.inl k3)] at hm
    rw [if_pos k3, if_pos k3]
    refine cap_eq ?_
    unfold formB restB noneH
    rw [fk 2 (kidsN_two (Or.inl k3)) hm, k3]
    cases (p.f1.toList == ([] : List UInt8)) <;> cases decide (p.f3.length = 0) <;> cases (p.f4 == 0) <;> cases noneB p.f2 <;> rfl
  rw [if_neg k3, if_neg k3]
  by_cases k4 : p.f0 = 4
  · rw [if_pos (Or.inr k4)] at hm
    rw [if_pos k4, if_pos k4]
    refine cap_eq ?_
    unfold formB restB noneH
    rw [fk 2 (kidsN_two (Or.inr k4)) hm, k4]
    cases (p.f1.toList == ([] : List UInt8)) <;> cases decide (p.f3.length = 0) <;> cases (p.f4 == 0) <;> cases noneB p.f2 <;> rfl
  rw [if_neg k4, if_neg k4]
  by_cases k5 : p.f0 = 5
  · rw [if_neg (by omega)] at hm
    rw [if_pos k5, if_neg (show ¬ p.f0 = 6 by omega)]
    refine cap_eq ?_
    unfold formB restB noneH
    rw [fk 1 (kidsN_one (Or.inr (Or.inr (Or.inl k5)))) hm, k5]
    cases (p.f1.toList == ([] : List UInt8)) <;> cases decide (p.f3.length = 0) <;> cases (p.f4 == 0) <;> cases noneB p.f2 <;> rfl
  rw [if_neg k5]
  by_cases k6 : p.f0 = 6
  · rw [if_neg (by omega)] at hm
    rw [if_pos k6, if_pos k6]
    refine cap_eq ?_
    unfold formB restB noneH
    rw [fk 1 (kidsN_one (Or.inr (Or.inr (Or.inr k6)))) hm, k6]
    cases (p.f1.toList == ([] : List UInt8)) <;> cases decide (p.f3.length = 0) <;> cases (p.f4 == 0) <;> cases noneB p.f2 <;> rfl
  rw [if_neg k6, if_neg k6, cz, if_neg]
  intro hf
  have hk := form_kids hf
  rw [kidsN_not k0 k1 k2 k3 k4 k5 k6] at hk
  omega
theorem implWidth_is (n : Nat) (db : List S68) : ∀ (m : Nat) (p : S42), m ≤ 9 → gdP n m p → Ev (fun k => impl_width.f k db p.f0 p.f1 p.f2.f0 p.f2.f1 p.f2.f2.f0 p.f2.f2.f1 p.f2.f2.f2 p.f2.f3 p.f2.f4 p.f3 p.f4 p.f5 (9 - (m : Int))) (wid db m p)
  | 0, p, _, _ => by
    have h : Ev (fun k => impl_Plan_widthOf.f (impl_width.f k) k p.f0 p.f1 p.f2.f0 p.f2.f1 p.f2.f2.f0 p.f2.f2.f1 p.f2.f2.f2 p.f2.f3 p.f2.f4 p.f3 p.f4 p.f5 db (9 - ((0 : Nat) : Int))) (0, false) := Ev.congr (fun k => if_pos (by omega)) (ev_some fun _ => rfl)
    exact Ev.step (fun k => rfl) (Ev.bind h (ev_if_neg (by simp) (ev_some fun _ => rfl)))
  | m + 1, p, hm, hg => by
    obtain ⟨g1, g2, g3, g4, g5⟩ := hg
    have ed : wrap64 ((9 - ((m + 1 : Nat) : Int)) + 1) = 9 - (m : Int) := by rw [wrap_id (by omega) (by omega)]; omega
    obtain ⟨K, hK⟩ := ev_all (xs := p.f5) (P := fun k y => impl_width.f k db y.f0 y.f1 y.f2.f0 y.f2.f1 y.f2.f2.f0 y.f2.f2.f1 y.f2.f2.f2 y.f2.f3 y.f2.f4 y.f3 y.f4 y.f5 (9 - (m : Int)) = some (wid db m y)) fun y hy => implWidth_is n db m y (by omega) (g5 y hy)
    have h := widthOf_is n db p (9 - ((m + 1 : Nat) : Int)) (by omega) (wid db m) g1 g3 g4 ⟨K, fun k hk y hy => by rw [ed]; exact hK k hk y hy⟩
    have hw := wOut_is db p (p.f5.map (wid db m)) (by simp)
    have hw' : wid db (m + 1) p = capW (wOut p db (p.f5.map (wid db m))) := hw.symm
    rw [hw']
    generalize wOut p db (p.f5.map (wid db m)) = r at *
    refine Ev.step (fun k => rfl) (Ev.bind h ?_)
    obtain ⟨x, b⟩ := r
    cases b with
    | false => exact ev_if_neg (by simp) (ev_some fun _ => rfl)
    | true =>
      refine ev_if_pos rfl (ev_conv ?_ (cap_pos rfl).symm)
      by_cases hx : x > 12
      · exact ev_conv (ev_if_pos hx (ev_some fun _ => rfl)) (if_pos hx).symm
      · exact ev_conv (ev_if_neg hx (ev_if_neg (by omega) (ev_some fun _ => rfl))) (if_neg hx).symm
def i64N : Nat → S27 → Prop
  | 0, _ => False
  | n + 1, x => (-9223372036854775808 ≤ x.f1 ∧ x.f1 ≤ 9223372036854775807) ∧ ∀ y ∈ x.f4, i64N n y
theorem i64N_mono : ∀ (n m : Nat) (x : S27), n ≤ m → i64N n x → i64N m x
  | 0, _, _, _, h => h.elim
  | n + 1, 0, _, hm, _ => absurd hm (by omega)
  | n + 1, m + 1, x, hm, h => ⟨h.1, fun y hy => i64N_mono n m y (by omega) (h.2 y hy)⟩
theorem wf_i64 {z : Int} (h : -9223372036854775808 ≤ z ∧ z ≤ 9223372036854775807) : (Lit.int .i64 z).wf = true := by
  simp [Lit.wf, IntKind.min, IntKind.max, IntKind.bits, IntKind.signed]
  omega
theorem nE_to : ∀ (n m : Nat) (x : S27), wtEN n x ≤ 1048576 → i64N n x → nE m (toEN n x)
  | 0, _, _, _, h => h.elim
  | _ + 1, 0, _, _, _ => trivial
  | n + 1, m + 1, x, hw, h => ⟨wf_i64 h.1, by show (x.f4.map (toEN n)).length ≤ _; rw [List.length_map]; exact wtE_len hw, fun z hz => by
      obtain ⟨y, hy, rfl⟩ := List.mem_map.1 (show z ∈ x.f4.map (toEN n) from hz)
      exact nE_to n m y (wtE_kid hw hy) (h.2 y hy)⟩
theorem hE_to : ∀ (n : Nat) (x : S27), okEN n x → hE n (toEN n x)
  | 0, _, h => h.elim
  | n + 1, x, h => fun z hz => by
    obtain ⟨y, hy, rfl⟩ := List.mem_map.1 (show z ∈ x.f4.map (toEN n) from hz)
    exact hE_to n y (h.2.2.2 y hy)
theorem ndE_to : ∀ (n : Nat) (x : S27), ndE n (toEN n x) ≤ 1 + wtEN n x
  | 0, _ => Nat.zero_le _
  | n + 1, x => by
    show 1 + ((x.f4.map (toEN n)).map (ndE n)).sum ≤ 1 + (x.f2.f2.size + (x.f3.size + (x.f4.length + (x.f4.map (wtEN n)).sum)))
    have : ∀ l : List S27, ((l.map (toEN n)).map (ndE n)).sum ≤ l.length + (l.map (wtEN n)).sum := by
      intro l
      induction l with
      | nil => exact Nat.le_refl _
      | cons a l ih =>
        have ha := ndE_to n a
        simp only [List.map_cons, List.sum_cons, List.length_cons]
        omega
    have := this x.f4
    omega
theorem gdE_to (e : Nat) (h13 : 13 ≤ e) (x : S27) (ho : okEN e x) (hi : i64N e x) (hw : wtEN e x ≤ 1048576) : gdE e (toEN e x) :=
  ⟨h13, hE_to e x ho, nE_to e e x hw hi, nE_to e 41 x hw hi, Nat.le_trans (ndE_to e x) (by omega), toE_short e 13 x hw⟩
def i64P (e : Nat) : Nat → S30 → Prop
  | 0, _ => False
  | n + 1, x => i64N e x.f2 ∧ (∀ y ∈ x.f3, i64N e y) ∧ ∀ y ∈ x.f5, i64P e n y
theorem gdP_to (e : Nat) (h13 : 13 ≤ e) : ∀ (n m : Nat) (x : S30), okP e n x → i64P e n x → wtP e n x ≤ 1048576 → gdP e m (toPN e n x)
  | 0, _, _, h, _, _ => h.elim
  | _ + 1, 0, _, _, _, _ => trivial
  | n + 1, m + 1, x, ho, hi, hw => by
    obtain ⟨_, o2, _, o3, _, o5⟩ := ho
    obtain ⟨i2, i3, i5⟩ := hi
    obtain ⟨w2, w3, w5, w3'⟩ := wtP_parts hw
    refine ⟨gdE_to e h13 x.f2 o2 i2 w2, by show (x.f3.map (toEN e)).length ≤ _; rw [List.length_map]; exact w3, fun z hz => ?_, by show (x.f5.map (toPN e n)).length ≤ _; rw [List.length_map]; exact w5, fun z hz => ?_⟩
    · obtain ⟨y, hy, rfl⟩ := List.mem_map.1 (show z ∈ x.f3.map (toEN e) from hz)
      exact gdE_to e h13 y (o3 y hy) (i3 y hy) (w3' y hy)
    · obtain ⟨y, hy, rfl⟩ := List.mem_map.1 (show z ∈ x.f5.map (toPN e n) from hz)
      exact gdP_to e h13 n m y (o5 y hy) (i5 y hy) (wtP_kid hw hy)
theorem width_both (e : Nat) (db : List S68) (hdb : db.length ≤ 1048576) (p : S42) (hg : gdP e 9 p) :
    Ev (fun k => spec_Width.f k db p.f0 p.f1 p.f2.f0 p.f2.f1 p.f2.f2.f0 p.f2.f2.f1 p.f2.f2.f2 p.f2.f3 p.f2.f4 p.f3 p.f4 p.f5) (wid db 9 p) ∧
    Ev (fun k => impl_Width.f k db p.f0 p.f1 p.f2.f0 p.f2.f1 p.f2.f2.f0 p.f2.f2.f1 p.f2.f2.f2 p.f2.f3 p.f2.f4 p.f3 p.f4 p.f5) (wid db 9 p) := by
  have h1 := specWidth_is e db hdb 9 p (Nat.le_refl _) hg
  have h2 := implWidth_is e db 9 p (Nat.le_refl _) hg
  exact ⟨Ev.congr (fun k => rfl) (Ev.bind h1 (f := fun k t => some t) (ev_some fun _ => rfl)), Ev.congr (fun k => rfl) (Ev.bind h2 (f := fun k t => some t) (ev_some fun _ => rfl))⟩
end Go.Proofs.YtnobhkmpkichdaaGreat.PFnExactWidth
