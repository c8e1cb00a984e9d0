/- Plain lemmas on what the functions of the law FnExactSizeOf compute: numbers and lists alone. -/
import Derived.Test.YtioemnmabbdfgaaPFnExactSizeOfx0
import Derived.Test.YtioemnmabbdfgaaPFnExactSizeOfx1
import Derived.Test.YtioemnmabbdfgaaPFnExactSizeOfx2
import Derived.Test.YtioemnmabbdfgaaPFnExactSizeOfx3
import Derived.Test.YtioemnmabbdfgaaOpen
import Derived.Test.YtioemnmabbdfgaaPlain
namespace Go.Proofs.Ytioemnmabbdfgaa.PFnExactSizeOf
open Go.RowKit Go.Proofs.YtioemnmabbdfgaaW.PrintWords Go.Proofs.YtioemnmabbdfgaaW.PrintLast Go.Proofs.YtioemnmabbdfgaaW.PrintMore Go.Proofs.YtioemnmabbdfgaaOpen Go.Proofs.YtioemnmabbdfgaaPlain
set_option linter.unusedVariables false
set_option linter.unusedSimpArgs false
/-- What is left of the bound behind a text. -/
theorem szValue_is (a b : Int) (s : ByteArray) (l : Int) (h0 : 0 ≤ l) (h1 : l ≤ 1048576) (hs : s.size ≤ 9223372036854775807) : laws_szValue.f a b s l = some (lft l s.size) := by
  unfold laws_szValue.f
  rw [wrap_id (x := l - (s.size : Int)) (by omega) (by omega)]
  by_cases h : l - (s.size : Int) < 0
  · rw [if_pos h, lft_of_gt (by omega)]
  · rw [if_neg h, lft_of_le (by omega)]
def wtV (x : S26) : Nat := x.f2.size
def wtVS (l : List S26) : Nat := l.length + (l.map wtV).sum
theorem szValueS_is (xs : List S26) (hn : xs.length ≤ 9223372036854775807) (hx : ∀ x ∈ xs, x.f2.size ≤ 9223372036854775807) (l : Int) (h0 : 0 ≤ l) (h1 : l ≤ 1048576) : Ev (fun k => laws_szValueS.f k xs l) (lft l (wtVS xs)) :=
  sz_list z26 laws_szValueS.f laws_szValueS.l0 (fun _ x l => laws_szValue.f x.f0 x.f1 x.f2 l) wtV (fun _ _ _ => rfl) (fun _ _ _ _ => rfl) xs hn (fun x hx' l h0 h1 => ev_some fun _ => szValue_is _ _ _ l h0 h1 (hx x hx')) l h0 h1
def toV (x : S26) : S29 := ⟨x.f0, x.f1, x.f2⟩
theorem toValueS_is (xs : List S26) (hn : xs.length ≤ 8796093022208) : Ev (fun k => laws_toValueS.f k xs) (xs.map toV) :=
  map_list z26 z29 laws_toValueS.f laws_toValueS.l0 (fun _ x => laws_toValue.f x.f0 x.f1 x.f2) (fun bt => (⟨bt.1, bt.2.1, bt.2.2⟩ : S29)) (fun x => (x.f0, x.f1, x.f2)) 8796093022208 (fun _ _ => rfl) (fun _ _ _ _ => rfl) xs hn (by omega) (fun x _ => ev_some fun _ => rfl)
theorem eqValue_refl (a b : Int) (s : ByteArray) : laws_eqValue.f a b s a b s = some true := by simp [laws_eqValue.f]
theorem eqValueS_refl (xs : List S29) (hn : xs.length ≤ 9223372036854775807) : Ev (fun k => laws_eqValueS.f k xs xs) true :=
  eq_list z29 laws_eqValueS.f laws_eqValueS.l0 (fun _ x y => laws_eqValue.f x.f0 x.f1 x.f2 y.f0 y.f1 y.f2) (fun _ _ _ => rfl) (fun _ _ _ _ => rfl) xs hn (fun x _ => ev_some fun _ => eqValue_refl _ _ _)
def wtC (x : S84) : Nat := wtVS x.f0
def wtCS (l : List S84) : Nat := l.length + (l.map wtC).sum
def okC (x : S84) : Prop := x.f0.length ≤ 9223372036854775807 ∧ ∀ y ∈ x.f0, y.f2.size ≤ 9223372036854775807
theorem szCounted_is (a : List S26) (n : Int) (hn : a.length ≤ 9223372036854775807) (hx : ∀ x ∈ a, x.f2.size ≤ 9223372036854775807) (l : Int) (h0 : 0 ≤ l) (h1 : l ≤ 1048576) : Ev (fun k => laws_szCounted.f k a n l) (lft l (wtVS a)) := by
  refine Ev.congr (fun k => rfl) (Ev.bind (szValueS_is a hn hx l h0 h1) (f := fun k t => if t < 0 then some (-1) else some t) ?_)
  by_cases h : (wtVS a : Int) ≤ l
  · exact ev_if_neg (by rw [lft_of_le h]; omega) (ev_some fun _ => rfl)
  · rw [lft_of_gt h]
    exact ev_if_pos (by omega) (ev_some fun _ => rfl)
theorem szCountedS_is (xs : List S84) (hn : xs.length ≤ 9223372036854775807) (hx : ∀ x ∈ xs, okC x) (l : Int) (h0 : 0 ≤ l) (h1 : l ≤ 1048576) : Ev (fun k => laws_szCountedS.f k xs l) (lft l (wtCS xs)) :=
  sz_list z84 laws_szCountedS.f laws_szCountedS.l0 (fun k x l => laws_szCounted.f k x.f0 x.f1 l) wtC (fun _ _ _ => rfl) (fun _ _ _ _ => rfl) xs hn (fun x hx' l h0 h1 => szCounted_is _ _ (hx x hx').1 (hx x hx').2 l h0 h1) l h0 h1
theorem szBag_is (w : Int) (xs : List S84) (hn : xs.length ≤ 9223372036854775807) (hx : ∀ x ∈ xs, okC x) (l : Int) (h0 : 0 ≤ l) (h1 : l ≤ 1048576) : Ev (fun k => laws_szBag.f k w xs l) (lft l (wtCS xs)) := by
  refine Ev.congr (fun k => rfl) (Ev.bind (szCountedS_is xs hn hx l h0 h1) (f := fun k t => if t < 0 then some (-1) else some t) ?_)
  by_cases h : (wtCS xs : Int) ≤ l
  · exact ev_if_neg (by rw [lft_of_le h]; omega) (ev_some fun _ => rfl)
  · rw [lft_of_gt h]
    exact ev_if_pos (by omega) (ev_some fun _ => rfl)
theorem sum_le_of_mem {α : Type} (f : α → Nat) {l : List α} {x : α} (h : x ∈ l) : f x ≤ (l.map f).sum := by
  induction l with
  | nil => cases h
  | cons a l ih =>
    rw [List.map_cons, List.sum_cons]
    rcases List.mem_cons.1 h with rfl | h
    · omega
    · have := ih h
      omega
def toC (x : S84) : S77 := ⟨x.f0.map toV, x.f1⟩
theorem toCounted_is (a : List S26) (n : Int) (hn : a.length ≤ 8796093022208) : Ev (fun k => laws_toCounted.f k a n) (a.map toV, n) :=
  Ev.bind (toValueS_is a hn) (f := fun k t => some (t, n)) (ev_some fun _ => rfl)
theorem toCountedS_is (xs : List S84) (hn : xs.length ≤ 8796093022208) (hx : ∀ x ∈ xs, x.f0.length ≤ 8796093022208) : Ev (fun k => laws_toCountedS.f k xs) (xs.map toC) :=
  map_list z84 z77 laws_toCountedS.f laws_toCountedS.l0 (fun k x => laws_toCounted.f k x.f0 x.f1) (fun bt => (⟨bt.1, bt.2⟩ : S77)) (fun x => (x.f0.map toV, x.f1)) 8796093022208 (fun _ _ => rfl) (fun _ _ _ _ => rfl) xs hn (by omega) (fun x h => toCounted_is _ _ (hx x h))
theorem toBag_is (w : Int) (xs : List S84) (hn : xs.length ≤ 8796093022208) (hx : ∀ x ∈ xs, x.f0.length ≤ 8796093022208) : Ev (fun k => laws_toBag.f k w xs) (w, xs.map toC) :=
  Ev.bind (toCountedS_is xs hn hx) (f := fun k t => some (w, t)) (ev_some fun _ => rfl)
theorem eqCounted_refl (a : List S29) (n : Int) (hn : a.length ≤ 9223372036854775807) : Ev (fun k => laws_eqCounted.f k a n a n) true := by
  refine Ev.congr (fun k => rfl) (Ev.bind (eqValueS_refl a hn) (f := fun k t => if t = true then (if n = n then some true else some false) else some false) ?_)
  exact ev_some fun _ => by simp
theorem eqCountedS_refl (xs : List S77) (hn : xs.length ≤ 9223372036854775807) (hx : ∀ x ∈ xs, x.f0.length ≤ 9223372036854775807) : Ev (fun k => laws_eqCountedS.f k xs xs) true :=
  eq_list z77 laws_eqCountedS.f laws_eqCountedS.l0 (fun k x y => laws_eqCounted.f k x.f0 x.f1 y.f0 y.f1) (fun _ _ _ => rfl) (fun _ _ _ _ => rfl) xs hn (fun x h => eqCounted_refl _ _ (hx x h))
theorem eqBag_refl (w : Int) (xs : List S77) (hn : xs.length ≤ 9223372036854775807) (hx : ∀ x ∈ xs, x.f0.length ≤ 9223372036854775807) : Ev (fun k => laws_eqBag.f k w xs w xs) true := by
  refine Ev.congr (fun k => if_pos rfl) (Ev.bind (eqCountedS_refl xs hn hx) (f := fun k t => if t = true then some true else some false) ?_)
  exact ev_some fun _ => by simp
/-- What the bound tells of a bag. -/
theorem bag_bounds {xs : List S84} {l : Int} (h : (wtCS xs : Int) ≤ l) (hl : l ≤ 1048576) : xs.length ≤ 1048576 ∧ ∀ x ∈ xs, x.f0.length ≤ 1048576 := by
  unfold wtCS at h
  refine ⟨by omega, fun x hx => ?_⟩
  have h1 := sum_le_of_mem wtC hx
  have h2 : x.f0.length ≤ wtC x := by unfold wtC wtVS; omega
  omega
theorem toC_len {xs : List S84} {n : Nat} (h : ∀ x ∈ xs, x.f0.length ≤ n) : ∀ x ∈ xs.map toC, x.f0.length ≤ n := by
  intro y hy
  obtain ⟨x, hx, rfl⟩ := List.mem_map.1 hy
  simpa [toC] using h x hx
def sizeFrom (n : Int) (xs : List S77) : Int := xs.foldl (fun a x => wrap64 (a + x.f1)) n
theorem specSizeOf_is (w : Int) (xs : List S77) (hn : xs.length ≤ 9223372036854775807) : Ev (fun k => spec_SizeOf.f k w xs) (sizeFrom 0 xs) := by
  have h : ∀ (n i : Nat) (a : Int), xs.length - i = n → i ≤ xs.length → Ev (fun k => spec_SizeOf.l0 k a i w xs) (sizeFrom a (xs.drop i)) := by
    intro n
    induction n with
    | zero =>
      intro i a h1 h2
      have e : i = xs.length := by omega
      refine Ev.step (fun k => rfl) (ev_if_neg (by omega) (ev_conv (ev_some fun _ => rfl) ?_))
      rw [e, List.drop_length]; rfl
    | succ n ih =>
      intro i a h1 h2
      have hi : i < xs.length := by omega
      refine Ev.step (fun k => rfl) (ev_if_pos (by omega) (ev_if_pos (by omega) ?_))
      rw [wrap_succ hi hn, drop_cons_getD z77 hi]
      exact ih (i + 1) _ (by omega) (by omega)
  exact ev_conv (h xs.length 0 0 (by omega) (by omega)) (by rw [List.drop_zero])
theorem implSizeOf_is (w : Int) (xs : List S77) (hn : xs.length ≤ 9223372036854775807) : Ev (fun k => impl_SizeOf.f k w xs) (sizeFrom 0 xs) := by
  have h : ∀ (n i : Nat) (a : Int), xs.length - i = n → i ≤ xs.length → Ev (fun k => impl_SizeOf.l0 k a xs (xs.length : Int) i) (sizeFrom a (xs.drop i)) := by
    intro n
    induction n with
    | zero =>
      intro i a h1 h2
      have e : i = xs.length := by omega
      refine Ev.step (fun k => rfl) (ev_if_neg (by omega) (ev_conv (ev_some fun _ => rfl) ?_))
      rw [e, List.drop_length]; rfl
    | succ n ih =>
      intro i a h1 h2
      have hi : i < xs.length := by omega
      refine Ev.step (fun k => rfl) (ev_if_pos (by omega) (ev_if_pos (by omega) (ev_if_pos (by omega) ?_)))
      rw [wrap_succ hi hn, drop_cons_getD z77 hi]
      exact ih (i + 1) _ (by omega) (by omega)
  exact ev_conv (h xs.length 0 0 (by omega) (by omega)) (by rw [List.drop_zero])
end Go.Proofs.Ytioemnmabbdfgaa.PFnExactSizeOf
