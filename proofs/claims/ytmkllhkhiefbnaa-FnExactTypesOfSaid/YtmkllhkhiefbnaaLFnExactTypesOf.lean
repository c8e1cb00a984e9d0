/- Plain lemmas on what the functions of the law FnExactTypesOf compute: numbers and lists alone. -/
import Derived.Test.YtmkllhkhiefbnaaPFnExactTypesOfx0
import Derived.Test.YtmkllhkhiefbnaaPFnExactTypesOfx1
import Derived.Test.YtmkllhkhiefbnaaPFnExactTypesOfx2
import Derived.Test.YtmkllhkhiefbnaaPFnExactTypesOfx3
import Derived.Test.YtmkllhkhiefbnaaPFnExactTypesOfx4
import Derived.Test.YtmkllhkhiefbnaaPFnExactTypesOfx5
import Derived.Test.YtmkllhkhiefbnaaPFnExactTypesOfx6
import Derived.Test.YtmkllhkhiefbnaaOpen
import Derived.Test.YtmkllhkhiefbnaaZFnExactTypesOf
namespace Go.Proofs.Ytmkllhkhiefbnaa.PFnExactTypesOf
open Go.RowKit Go.Proofs.YtmkllhkhiefbnaaW.PrintWords Go.Proofs.YtmkllhkhiefbnaaW.PrintLast Go.Proofs.YtmkllhkhiefbnaaW.PrintMore Go.Proofs.YtmkllhkhiefbnaaOpen Go.Proofs.Ytmkllhkhiefbnaa.ZFnExactTypesOf
set_option linter.unusedVariables false
set_option linter.unusedSimpArgs false
/-- What is left of the bound behind a text. -/
theorem szValue_is (a b : Int) (s : ByteArray) (l : Int) (h0 : 0 ≤ l) (h1 : l ≤ 1048576) (hs : s.size ≤ 9223372036854775807) : laws_szValue.f a b s l = some (lft l s.size) := by
  unfold laws_szValue.f
  rw [wrap_id (x := l - (s.size : Int)) (by omega) (by omega)]
  by_cases h : l - (s.size : Int) < 0
  · rw [if_pos h, lft_of_gt (by omega)]
  · rw [if_neg h, lft_of_le (by omega)]
def wtV (x : S23) : Nat := x.f2.size
def wtVS (l : List S23) : Nat := l.length + (l.map wtV).sum
theorem szValueS_is (xs : List S23) (hn : xs.length ≤ 9223372036854775807) (hx : ∀ x ∈ xs, x.f2.size ≤ 9223372036854775807) (l : Int) (h0 : 0 ≤ l) (h1 : l ≤ 1048576) : Ev (fun k => laws_szValueS.f k xs l) (lft l (wtVS xs)) :=
  sz_list z23 laws_szValueS.f laws_szValueS.l0 (fun _ x l => laws_szValue.f x.f0 x.f1 x.f2 l) wtV (fun _ _ _ => rfl) (fun _ _ _ _ => rfl) xs hn (fun x hx' l h0 h1 => ev_some fun _ => szValue_is _ _ _ l h0 h1 (hx x hx')) l h0 h1
def toV (x : S23) : S29 := ⟨x.f0, x.f1, x.f2⟩
theorem toValueS_is (xs : List S23) (hn : xs.length ≤ 8796093022208) : Ev (fun k => laws_toValueS.f k xs) (xs.map toV) :=
  map_list z23 z29 laws_toValueS.f laws_toValueS.l0 (fun _ x => laws_toValue.f x.f0 x.f1 x.f2) (fun bt => (⟨bt.1, bt.2.1, bt.2.2⟩ : S29)) (fun x => (x.f0, x.f1, x.f2)) 8796093022208 (fun _ _ => rfl) (fun _ _ _ _ => rfl) xs hn (by omega) (fun x _ => ev_some fun _ => rfl)
theorem eqValue_refl (a b : Int) (s : ByteArray) : laws_eqValue.f a b s a b s = some true := by simp [laws_eqValue.f]
theorem eqValueS_refl (xs : List S29) (hn : xs.length ≤ 9223372036854775807) : Ev (fun k => laws_eqValueS.f k xs xs) true :=
  eq_list z29 laws_eqValueS.f laws_eqValueS.l0 (fun _ x y => laws_eqValue.f x.f0 x.f1 x.f2 y.f0 y.f1 y.f2) (fun _ _ _ => rfl) (fun _ _ _ _ => rfl) xs hn (fun x _ => ev_some fun _ => eqValue_refl _ _ _)
def wtC (x : S153) : Nat := wtVS x.f0
def wtCS (l : List S153) : Nat := l.length + (l.map wtC).sum
def okC (x : S153) : Prop := x.f0.length ≤ 9223372036854775807 ∧ ∀ y ∈ x.f0, y.f2.size ≤ 9223372036854775807
theorem szCounted_is (a : List S23) (n : Int) (hn : a.length ≤ 9223372036854775807) (hx : ∀ x ∈ a, x.f2.size ≤ 9223372036854775807) (l : Int) (h0 : 0 ≤ l) (h1 : l ≤ 1048576) : Ev (fun k => laws_szCounted.f k a n l) (lft l (wtVS a)) := by
  refine Ev.congr (fun k => rfl) (Ev.bind (szValueS_is a hn hx l h0 h1) (f := fun k t => if t < 0 then some (-1) else some t) ?_)
  by_cases h : (wtVS a : Int) ≤ l
  · exact ev_if_neg (by rw [lft_of_le h]; omega) (ev_some fun _ => rfl)
  · rw [lft_of_gt h]
    exact ev_if_pos (by omega) (ev_some fun _ => rfl)
theorem szCountedS_is (xs : List S153) (hn : xs.length ≤ 9223372036854775807) (hx : ∀ x ∈ xs, okC x) (l : Int) (h0 : 0 ≤ l) (h1 : l ≤ 1048576) : Ev (fun k => laws_szCountedS.f k xs l) (lft l (wtCS xs)) :=
  sz_list z153 laws_szCountedS.f laws_szCountedS.l0 (fun k x l => laws_szCounted.f k x.f0 x.f1 l) wtC (fun _ _ _ => rfl) (fun _ _ _ _ => rfl) xs hn (fun x hx' l h0 h1 => szCounted_is _ _ (hx x hx').1 (hx x hx').2 l h0 h1) l h0 h1
theorem szBag_is (w : Int) (xs : List S153) (hn : xs.length ≤ 9223372036854775807) (hx : ∀ x ∈ xs, okC x) (l : Int) (h0 : 0 ≤ l) (h1 : l ≤ 1048576) : Ev (fun k => laws_szBag.f k w xs l) (lft l (wtCS xs)) := by
  refine Ev.congr (fun k => rfl) (Ev.bind (szCountedS_is xs hn hx l h0 h1) (f := fun k t => if t < 0 then some (-1) else some t) ?_)
  by_cases h : (wtCS xs : Int) ≤ l
  · exact ev_if_neg (by rw [lft_of_le h]; omega) (ev_some fun _ => rfl)
  · rw [lft_of_gt h]
    exact ev_if_pos (by omega) (ev_some fun _ => rfl)
theorem sum_le_of_mem {α : Type} (f : α → Nat) {l : List α} {x : α} (h : x ∈ l) : f x ≤ (l.map f).sum := by
  induction l with
  | nil => cases h
  | cons a l ih =>
    rw [List.map_cons, List.sum_cons]
    rcases List.mem_cons.1 h with rfl | h
    · omega
    · have := ih h
      omega
def toC (x : S153) : S89 := ⟨x.f0.map toV, x.f1⟩
theorem toCounted_is (a : List S23) (n : Int) (hn : a.length ≤ 8796093022208) : Ev (fun k => laws_toCounted.f k a n) (a.map toV, n) :=
  Ev.bind (toValueS_is a hn) (f := fun k t => some (t, n)) (ev_some fun _ => rfl)
theorem toCountedS_is (xs : List S153) (hn : xs.length ≤ 8796093022208) (hx : ∀ x ∈ xs, x.f0.length ≤ 8796093022208) : Ev (fun k => laws_toCountedS.f k xs) (xs.map toC) :=
  map_list z153 z89 laws_toCountedS.f laws_toCountedS.l0 (fun k x => laws_toCounted.f k x.f0 x.f1) (fun bt => (⟨bt.1, bt.2⟩ : S89)) (fun x => (x.f0.map toV, x.f1)) 8796093022208 (fun _ _ => rfl) (fun _ _ _ _ => rfl) xs hn (by omega) (fun x h => toCounted_is _ _ (hx x h))
theorem toBag_is (w : Int) (xs : List S153) (hn : xs.length ≤ 8796093022208) (hx : ∀ x ∈ xs, x.f0.length ≤ 8796093022208) : Ev (fun k => laws_toBag.f k w xs) (w, xs.map toC) :=
  Ev.bind (toCountedS_is xs hn hx) (f := fun k t => some (w, t)) (ev_some fun _ => rfl)
theorem eqCounted_refl (a : List S29) (n : Int) (hn : a.length ≤ 9223372036854775807) : Ev (fun k => laws_eqCounted.f k a n a n) true := by
  refine Ev.congr (fun k => rfl) (Ev.bind (eqValueS_refl a hn) (f := fun k t => if t = true then (if n = n then some true else some false) else some false) ?_)
  exact ev_some fun _ => by simp
theorem eqCountedS_refl (xs : List S89) (hn : xs.length ≤ 9223372036854775807) (hx : ∀ x ∈ xs, x.f0.length ≤ 9223372036854775807) : Ev (fun k => laws_eqCountedS.f k xs xs) true :=
  eq_list z89 laws_eqCountedS.f laws_eqCountedS.l0 (fun k x y => laws_eqCounted.f k x.f0 x.f1 y.f0 y.f1) (fun _ _ _ => rfl) (fun _ _ _ _ => rfl) xs hn (fun x h => eqCounted_refl _ _ (hx x h))
theorem eqBag_refl (w : Int) (xs : List S89) (hn : xs.length ≤ 9223372036854775807) (hx : ∀ x ∈ xs, x.f0.length ≤ 9223372036854775807) : Ev (fun k => laws_eqBag.f k w xs w xs) true := by
  refine Ev.congr (fun k => if_pos rfl) (Ev.bind (eqCountedS_refl xs hn hx) (f := fun k t => if t = true then some true else some false) ?_)
  exact ev_some fun _ => by simp
/-- What the bound tells of a bag. -/
theorem bag_bounds {xs : List S153} {l : Int} (h : (wtCS xs : Int) ≤ l) (hl : l ≤ 1048576) : xs.length ≤ 1048576 ∧ ∀ x ∈ xs, x.f0.length ≤ 1048576 := by
  unfold wtCS at h
  refine ⟨by omega, fun x hx => ?_⟩
  have h1 := sum_le_of_mem wtC hx
  have h2 : x.f0.length ≤ wtC x := by unfold wtC wtVS; omega
  omega
theorem toC_len {xs : List S153} {n : Nat} (h : ∀ x ∈ xs, x.f0.length ≤ n) : ∀ x ∈ xs.map toC, x.f0.length ≤ n := by
  intro y hy
  obtain ⟨x, hx, rfl⟩ := List.mem_map.1 hy
  simpa [toC] using h x hx
def wtR (x : S99) : Nat := x.f0.size + wtCS x.f1.f1
def wtRS (l : List S99) : Nat := l.length + (l.map wtR).sum
def okR (x : S99) : Prop := x.f0.size ≤ 9223372036854775807 ∧ x.f1.f1.length ≤ 9223372036854775807 ∧ ∀ y ∈ x.f1.f1, okC y
theorem szRel_is (a : ByteArray) (w : Int) (xs : List S153) (ha : a.size ≤ 9223372036854775807) (hn : xs.length ≤ 9223372036854775807) (hx : ∀ x ∈ xs, okC x) (l : Int) (h0 : 0 ≤ l) (h1 : l ≤ 1048576) : Ev (fun k => laws_szRel.f k a w xs l) (lft l (a.size + wtCS xs)) := by
  unfold laws_szRel.f
  rw [wrap_id (x := l - (a.size : Int)) (by omega) (by omega)]
  by_cases h : l - (a.size : Int) < 0
  · exact ev_if_pos h (ev_conv (ev_some fun _ => rfl) (lft_of_gt (by omega)).symm)
  · refine ev_if_neg h (Ev.bind (szBag_is w xs hn hx _ (by omega) (by omega)) ?_)
    by_cases g : (wtCS xs : Int) ≤ l - (a.size : Int)
    · rw [lft_of_le g, lft_of_le (by omega)]
      exact ev_if_neg (by omega) (ev_some fun _ => by congr 1; omega)
    · rw [lft_of_gt g, lft_of_gt (by omega)]
      exact ev_if_pos (by omega) (ev_some fun _ => rfl)
theorem szRelS_is (xs : List S99) (hn : xs.length ≤ 9223372036854775807) (hx : ∀ x ∈ xs, okR x) (l : Int) (h0 : 0 ≤ l) (h1 : l ≤ 1048576) : Ev (fun k => laws_szRelS.f k xs l) (lft l (wtRS xs)) :=
  sz_list z99 laws_szRelS.f laws_szRelS.l0 (fun k x l => laws_szRel.f k x.f0 x.f1.f0 x.f1.f1 l) wtR (fun _ _ _ => rfl) (fun _ _ _ _ => rfl) xs hn (fun x hx' l h0 h1 => szRel_is _ _ _ (hx x hx').1 (hx x hx').2.1 (hx x hx').2.2 l h0 h1) l h0 h1
theorem rel_bounds {xs : List S99} {l : Int} (h : (wtRS xs : Int) ≤ l) (hl : l ≤ 1048576) : xs.length ≤ 1048576 ∧ ∀ x ∈ xs, x.f1.f1.length ≤ 1048576 ∧ ∀ y ∈ x.f1.f1, y.f0.length ≤ 1048576 := by
  unfold wtRS at h
  refine ⟨by omega, fun x hx => ?_⟩
  have h1 := sum_le_of_mem wtR hx
  have h2 : wtCS x.f1.f1 ≤ wtR x := Nat.le_add_left _ _
  have h3 : (wtCS x.f1.f1 : Int) ≤ l := by omega
  unfold wtCS at h3
  refine ⟨by omega, fun y hy => ?_⟩
  have h4 := sum_le_of_mem wtC hy
  have h5 : y.f0.length ≤ wtC y := by unfold wtC wtVS; omega
  omega
def toR (x : S99) : S105 := ⟨x.f0, ⟨x.f1.f0, x.f1.f1.map toC⟩⟩
theorem toRelS_is (xs : List S99) (hn : xs.length ≤ 5864062014805) (hx : ∀ x ∈ xs, x.f1.f1.length ≤ 1048576 ∧ ∀ y ∈ x.f1.f1, y.f0.length ≤ 1048576) : Ev (fun k => laws_toRelS.f k xs) (xs.map toR) :=
  map_list z99 z105 laws_toRelS.f laws_toRelS.l0 (fun k x => laws_toRel.f k x.f0 x.f1.f0 x.f1.f1) (fun bt => (⟨bt.1, (⟨bt.2.1, bt.2.2⟩ : S45)⟩ : S105)) (fun x => (x.f0, x.f1.f0, x.f1.f1.map toC)) 5864062014805 (fun _ _ => rfl) (fun _ _ _ _ => rfl) xs hn (by omega) (fun x h => Ev.bind (toBag_is _ _ (by have := (hx x h).1; omega) (fun y hy => by have := (hx x h).2 y hy; omega)) (ev_some fun _ => rfl))
theorem eqRel_refl (a : ByteArray) (w : Int) (xs : List S89) (hn : xs.length ≤ 9223372036854775807) (hx : ∀ x ∈ xs, x.f0.length ≤ 9223372036854775807) : Ev (fun k => laws_eqRel.f k a w xs a w xs) true := by
  refine Ev.congr (fun k => if_pos rfl) (Ev.bind (eqBag_refl w xs hn hx) (f := fun k t => if t = true then some true else some false) ?_)
  exact ev_some fun _ => by simp
theorem eqRelS_refl (xs : List S105) (hn : xs.length ≤ 9223372036854775807) (hx : ∀ x ∈ xs, x.f1.f1.length ≤ 9223372036854775807 ∧ ∀ y ∈ x.f1.f1, y.f0.length ≤ 9223372036854775807) : Ev (fun k => laws_eqRelS.f k xs xs) true :=
  eq_list z105 laws_eqRelS.f laws_eqRelS.l0 (fun k x y => laws_eqRel.f k x.f0 x.f1.f0 x.f1.f1 y.f0 y.f1.f0 y.f1.f1) (fun _ _ _ => rfl) (fun _ _ _ _ => rfl) xs hn (fun x h => eqRel_refl _ _ _ (hx x h).1 (hx x h).2)
theorem toR_len {xs : List S99} (h : ∀ x ∈ xs, x.f1.f1.length ≤ 1048576 ∧ ∀ y ∈ x.f1.f1, y.f0.length ≤ 1048576) : ∀ x ∈ xs.map toR, x.f1.f1.length ≤ 9223372036854775807 ∧ ∀ y ∈ x.f1.f1, y.f0.length ≤ 9223372036854775807 := by
  intro y hy
  obtain ⟨x, hx, rfl⟩ := List.mem_map.1 hy
  refine ⟨by have := (h x hx).1; simp [toR]; omega, toC_len fun z hz => by have := (h x hx).2 z hz; omega⟩
def wtTS (l : List ByteArray) : Nat := l.length + (l.map ByteArray.size).sum
theorem szStringS_is (xs : List ByteArray) (hn : xs.length ≤ 9223372036854775807) (hx : ∀ x ∈ xs, x.size ≤ 9223372036854775807) (l : Int) (h0 : 0 ≤ l) (h1 : l ≤ 1048576) : Ev (fun k => laws_szStringS.f k xs l) (lft l (wtTS xs)) :=
  sz_list ByteArray.empty laws_szStringS.f laws_szStringS.l0 (fun _ s l => if wrap64 (l - (s.size : Int)) < 0 then some (-1) else some (wrap64 (l - (s.size : Int)))) ByteArray.size (fun _ _ _ => rfl)
    (fun k xs l i => by
      rw [laws_szStringS.l0]
      show (if i < (xs.length : Int) then (if 0 ≤ i then (if (wrap64 (l - ((xs.getD i.toNat ByteArray.empty).size : Int))) < 0 then (some (-1)) else _) else none) else some l) = _
      by_cases c : wrap64 (l - ((xs.getD i.toNat ByteArray.empty).size : Int)) < 0
      · simp only [if_pos c, Option.bind_some]
        rfl
      · simp only [if_neg c, Option.bind_some]
        rfl) xs hn
    (fun x hx' l h0 h1 => ev_some fun _ => by
      have := hx x hx'
      rw [wrap_id (x := l - (x.size : Int)) (by omega) (by omega)]
      by_cases h : l - (x.size : Int) < 0
      · rw [if_pos h, lft_of_gt (by omega)]
      · rw [if_neg h, lft_of_le (by omega)]) l h0 h1
theorem toStringS_is (xs : List ByteArray) (hn : xs.length ≤ 17592186044416) : Ev (fun k => laws_toStringS.f k xs) xs :=
  ev_conv (map_list ByteArray.empty (⟨#[]⟩ : ByteArray) laws_toStringS.f laws_toStringS.l0 (fun _ x => some x) (fun x => x) (fun x => x) 17592186044416 (fun _ _ => rfl) (fun _ _ _ _ => rfl) xs hn (by omega) (fun x _ => ev_some fun _ => rfl)) (by simp)
theorem eqStringS_refl (xs : List ByteArray) (hn : xs.length ≤ 9223372036854775807) : Ev (fun k => laws_eqStringS.f k xs xs) true :=
  eq_list ByteArray.empty laws_eqStringS.f laws_eqStringS.l0 (fun _ x y => if x.toList = y.toList then some true else some false) (fun _ _ _ => rfl)
    (fun k xs ys i => by
      rw [laws_eqStringS.l0]
      show (if i < (xs.length : Int) then (if 0 ≤ i then (if i < (ys.length : Int) then (if (xs.getD i.toNat ByteArray.empty).toList = (ys.getD i.toNat ByteArray.empty).toList then _ else _) else none) else none) else some true) = _
      by_cases c : (xs.getD i.toNat ByteArray.empty).toList = (ys.getD i.toNat ByteArray.empty).toList
      · simp only [if_pos c, Option.bind_some]
        rfl
      · simp only [if_neg c, Option.bind_some]
        rfl) xs hn (fun x _ => ev_some fun _ => if_pos rfl)
def wtS (x : S103) : Nat := x.f0.size + wtTS x.f1
def wtSS (l : List S103) : Nat := l.length + (l.map wtS).sum
theorem szSchema_is (a : ByteArray) (xs : List ByteArray) (ha : a.size ≤ 9223372036854775807) (hn : xs.length ≤ 9223372036854775807) (hx : ∀ x ∈ xs, x.size ≤ 9223372036854775807) (l : Int) (h0 : 0 ≤ l) (h1 : l ≤ 1048576) : Ev (fun k => laws_szSchema.f k a xs l) (lft l (a.size + wtTS xs)) := by
  unfold laws_szSchema.f
  rw [wrap_id (x := l - (a.size : Int)) (by omega) (by omega)]
  by_cases h : l - (a.size : Int) < 0
  · exact ev_if_pos h (ev_conv (ev_some fun _ => rfl) (lft_of_gt (by omega)).symm)
  · refine ev_if_neg h (Ev.bind (szStringS_is xs hn hx _ (by omega) (by omega)) ?_)
    by_cases g : (wtTS xs : Int) ≤ l - (a.size : Int)
    · rw [lft_of_le g, lft_of_le (by omega)]
      exact ev_if_neg (by omega) (ev_some fun _ => by congr 1; omega)
    · rw [lft_of_gt g, lft_of_gt (by omega)]
      exact ev_if_pos (by omega) (ev_some fun _ => rfl)
theorem szSchemaS_is (xs : List S103) (hn : xs.length ≤ 9223372036854775807) (hx : ∀ x ∈ xs, x.f0.size ≤ 9223372036854775807 ∧ x.f1.length ≤ 9223372036854775807 ∧ ∀ y ∈ x.f1, y.size ≤ 9223372036854775807) (l : Int) (h0 : 0 ≤ l) (h1 : l ≤ 1048576) : Ev (fun k => laws_szSchemaS.f k xs l) (lft l (wtSS xs)) :=
  sz_list z103 laws_szSchemaS.f laws_szSchemaS.l0 (fun k x l => laws_szSchema.f k x.f0 x.f1 l) wtS (fun _ _ _ => rfl) (fun _ _ _ _ => rfl) xs hn (fun x hx' l h0 h1 => szSchema_is _ _ (hx x hx').1 (hx x hx').2.1 (hx x hx').2.2 l h0 h1) l h0 h1
theorem schema_bounds {xs : List S103} {l : Int} (h : (wtSS xs : Int) ≤ l) (hl : l ≤ 1048576) : xs.length ≤ 1048576 ∧ ∀ x ∈ xs, x.f1.length ≤ 1048576 := by
  unfold wtSS at h
  refine ⟨by omega, fun x hx => ?_⟩
  have h1 := sum_le_of_mem wtS hx
  have h2 : x.f1.length ≤ wtS x := by unfold wtS wtTS; omega
  omega
def toS (x : S103) : S106 := ⟨x.f0, x.f1⟩
theorem toSchemaS_is (xs : List S103) (hn : xs.length ≤ 7036874417766) (hx : ∀ x ∈ xs, x.f1.length ≤ 1048576) : Ev (fun k => laws_toSchemaS.f k xs) (xs.map toS) :=
  map_list z103 z106 laws_toSchemaS.f laws_toSchemaS.l0 (fun k x => laws_toSchema.f k x.f0 x.f1) (fun bt => (⟨bt.1, bt.2⟩ : S106)) (fun x => (x.f0, x.f1)) 7036874417766 (fun _ _ => rfl) (fun _ _ _ _ => rfl) xs hn (by omega) (fun x h => Ev.bind (toStringS_is _ (by have := hx x h; omega)) (ev_some fun _ => rfl))
theorem eqSchema_refl (a : ByteArray) (xs : List ByteArray) (hn : xs.length ≤ 9223372036854775807) : Ev (fun k => laws_eqSchema.f k a xs a xs) true := by
  refine Ev.congr (fun k => if_pos rfl) (Ev.bind (eqStringS_refl xs hn) (f := fun k t => if t = true then some true else some false) ?_)
  exact ev_some fun _ => by simp
theorem eqSchemaS_refl (xs : List S106) (hn : xs.length ≤ 9223372036854775807) (hx : ∀ x ∈ xs, x.f1.length ≤ 9223372036854775807) : Ev (fun k => laws_eqSchemaS.f k xs xs) true :=
  eq_list z106 laws_eqSchemaS.f laws_eqSchemaS.l0 (fun k x y => laws_eqSchema.f k x.f0 x.f1 y.f0 y.f1) (fun _ _ _ => rfl) (fun _ _ _ _ => rfl) xs hn (fun x h => eqSchema_refl _ _ (hx x h))
def typW (x : S105) (y : S106) : Bool := if x.f0.toList = y.f0.toList then x.f1.f0 == (y.f1.length : Int) else false
def typB : List S105 → List S106 → Bool
  | x :: xs, y :: ys => if typW x y = true then typB xs ys else false
  | [], _ => true
  | _ :: _, [] => true
theorem specTypesOf_loop (xs : List S105) (ys : List S106) (hl : xs.length = ys.length) (hn : xs.length ≤ 9223372036854775807) : ∀ (n i : Nat), xs.length - i = n → i ≤ xs.length → Ev (fun k => spec_TypesOf.l0 k xs ys i) (typB (xs.drop i) (ys.drop i)) := by
  intro n
  induction n with
  | zero =>
    intro i h1 h2
    refine Ev.step (fun k => rfl) (ev_if_neg (by omega) (ev_some fun _ => ?_))
    rw [show xs.drop i = [] from List.drop_eq_nil_of_le (by omega), typB]
  | succ n ih =>
    intro i h1 h2
    have hi : i < xs.length := by omega
    have hy : i < ys.length := by omega
    refine Ev.step (fun k => rfl) (ev_if_pos (by omega) (ev_if_pos (by omega) (ev_if_pos (by omega) ?_)))
    rw [wrap_succ hi hn, drop_cons_getD z105 hi, drop_cons_getD z106 hy, typB]
    have next := ih (i + 1) (by omega) (by omega)
    show Ev (fun k => if (xs.getD i z105).f0.toList = (ys.getD i z106).f0.toList then (if (xs.getD i z105).f1.f0 = ((ys.getD i z106).f1.length : Int) then spec_TypesOf.l0 k xs ys ((i + 1 : Nat) : Int) else some false) else some false) _
    unfold typW
    by_cases c : (xs.getD i z105).f0.toList = (ys.getD i z106).f0.toList
    · refine ev_if_pos c ?_
      by_cases d : (xs.getD i z105).f1.f0 = ((ys.getD i z106).f1.length : Int)
      · exact ev_if_pos d (ev_conv next (by rw [if_pos (by rw [if_pos c]; exact beq_iff_eq.mpr d)]))
      · exact ev_if_neg d (ev_conv (ev_some fun _ => rfl) (by rw [if_neg (by rw [if_pos c]; simpa using d)]))
    · exact ev_if_neg c (ev_conv (ev_some fun _ => rfl) (by rw [if_neg (by rw [if_neg c]; simp)]))
theorem specTypesOf_is (xs : List S105) (ys : List S106) (hn : xs.length ≤ 9223372036854775807) : Ev (fun k => spec_TypesOf.f k xs ys) (if xs.length = ys.length then typB xs ys else false) := by
  by_cases h : xs.length = ys.length
  · rw [if_pos h]
    exact ev_if_pos (by omega) (specTypesOf_loop xs ys h hn xs.length 0 rfl (Nat.zero_le _))
  · rw [if_neg h]
    exact ev_if_neg (by omega) (ev_some fun _ => rfl)
theorem implTypesOf_is (xs : List S105) (ys : List S106) : impl_TypesOf.f xs ys = some (if xs.length = ys.length then typB xs ys else false) := by
  have e : ∀ xs ys, eqO (fun (x : S105) (y : S106) => impl_TypesOf_1.f x.f0 x.f1.f0 x.f1.f1 y.f0 y.f1) xs ys = some (typB xs ys) := by
    intro xs
    induction xs with
    | nil => intro ys; rfl
    | cons x xs ih =>
      intro ys
      cases ys with
      | nil => rfl
      | cons y ys =>
        rw [eqO, typB, ih, show impl_TypesOf_1.f x.f0 x.f1.f0 x.f1.f1 y.f0 y.f1 = some (typW x y) by unfold impl_TypesOf_1.f typW; split <;> rfl, Option.bind_some]
        split <;> rfl
  unfold impl_TypesOf.f equalO
  rw [e]
  split <;> rfl
end Go.Proofs.Ytmkllhkhiefbnaa.PFnExactTypesOf
