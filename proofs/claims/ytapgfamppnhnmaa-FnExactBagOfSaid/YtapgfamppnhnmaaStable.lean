/- The stable sort of Go's library as plain functions on arrays of numbers, and that it sorts. No condition. -/
import Derived.Sort.LotA
namespace Go.Proofs.YtapgfamppnhnmaaStable
set_option linter.unusedVariables false
open Go.Sort
section
variable {α : Type} [Inhabited α]
theorem swp_get (d : Array α) {i j : Nat} (hi : i < d.size) (hj : j < d.size) (hij : i ≠ j) (p : Nat) : (swp d i j)[p]! = if p = i then d[j]! else if p = j then d[i]! else d[p]! := by
 by_cases h1 : p = i
 ·subst h1; rw [if_pos rfl]; exact swp_left d p j hi hij
 ·rw [if_neg h1]
  by_cases h2 : p = j
  ·subst h2; rw [if_pos rfl]; exact swp_right d i p hj
  ·rw [if_neg h2]; exact swp_other d i j p h1 h2
def swapRange (a b : Nat) : Nat → Nat → Array α → Array α
 | 0, _, d => d
 | n + 1, i, d => swapRange a b n (i + 1) (swp d (a + i) (b + i))
theorem swapRange_size (a b : Nat) : ∀ (n i : Nat) (d : Array α), (swapRange a b n i d).size = d.size
 | 0, _, _ => rfl
 | n + 1, i, d => by unfold swapRange; rw [swapRange_size a b n, size_swp]
theorem swapRange_get (a b : Nat) : ∀ (n i : Nat) (d : Array α), a + (i + n) ≤ b → b + (i + n) ≤ d.size → ∀ p, (swapRange a b n i d)[p]! = if a + i ≤ p ∧ p < a + (i + n) then d[p - a + b]! else if b + i ≤ p ∧ p < b + (i + n) then d[p - b + a]! else d[p]!
 | 0, i, d, h1, h2, p => by rw [if_neg (by omega), if_neg (by omega)]; rfl
 | n + 1, i, d, h1, h2, p => by
  unfold swapRange
  rw [swapRange_get a b n (i + 1) _ (by omega) (by rw [size_swp]; omega) p]
  have g := fun q => swp_get d (i := a + i) (j := b + i) (by omega) (by omega) (by omega) q
  rw [g, g, g]
  by_cases c1 : p = a + i
  ·subst c1
   rw [if_neg (by omega), if_neg (by omega), if_pos rfl, if_pos (by omega)]
   congr 1; omega
  by_cases c2 : p = b + i
  ·subst c2
   rw [if_neg (by omega), if_neg (by omega), if_neg (by omega), if_pos rfl, if_neg (by omega), if_pos (by omega)]
   congr 1; omega
  by_cases c3 : a + i ≤ p ∧ p < a + (i + (n + 1))
  ·rw [if_pos (by omega), if_pos c3, if_neg (by omega), if_neg (by omega)]
  ·rw [if_neg (by omega), if_neg c3]
   by_cases c4 : b + i ≤ p ∧ p < b + (i + (n + 1))
   ·rw [if_pos (by omega), if_pos c4, if_neg (by omega), if_neg (by omega)]
   ·rw [if_neg (by omega), if_neg c4, if_neg c1, if_neg c2]
theorem swapRange_permIn (lo hi a b : Nat) : ∀ (n i : Nat) (d : Array α), lo ≤ a → a + (i + n) ≤ b → b + (i + n) ≤ hi → hi ≤ d.size → PermIn lo hi d (swapRange a b n i d)
 | 0, i, d, h1, h2, h3, h4 => permIn_refl d lo hi
 | n + 1, i, d, h1, h2, h3, h4 => by
  unfold swapRange
  exact permIn_trans _ _ _ lo hi (swp_permIn d lo hi (a + i) (b + i) (by omega) (by omega) (by omega) (by omega) h4) (swapRange_permIn lo hi a b n (i + 1) _ h1 (by omega) (by omega) (by rw [size_swp]; exact h4))
def rot (m : Nat) : Nat → Nat → Nat → Array α → Array α
 | 0, _, _, d => d
 | f + 1, i, j, d => if i = j then swapRange (m - i) m i 0 d else if i > j then rot m f (i - j) j (swapRange (m - i) m j 0 d) else rot m f i (j - i) (swapRange (m - i) (m + j - i) i 0 d)
theorem rot_size (m : Nat) : ∀ (f i j : Nat) (d : Array α), (rot m f i j d).size = d.size
 | 0, _, _, _ => rfl
 | f + 1, i, j, d => by
  unfold rot
  split
  ·exact swapRange_size _ _ _ _ _
  ·split
   ·rw [rot_size m f, swapRange_size]
   ·rw [rot_size m f, swapRange_size]
theorem rot_permIn (lo hi m : Nat) : ∀ (f i j : Nat) (d : Array α), lo + i ≤ m → m + j ≤ hi → hi ≤ d.size → PermIn lo hi d (rot m f i j d)
 | 0, _, _, d, _, _, _ => permIn_refl d lo hi
 | f + 1, i, j, d, h1, h2, h3 => by
  unfold rot
  split
  ·exact swapRange_permIn lo hi _ _ _ _ _ (by omega) (by omega) (by omega) h3
  ·split
   ·exact permIn_trans _ _ _ lo hi (swapRange_permIn lo hi _ _ _ _ _ (by omega) (by omega) (by omega) h3) (rot_permIn lo hi m f _ _ _ (by omega) (by omega) (by rw [swapRange_size]; exact h3))
   ·exact permIn_trans _ _ _ lo hi (swapRange_permIn lo hi _ _ _ _ _ (by omega) (by omega) (by omega) h3) (rot_permIn lo hi m f _ _ _ (by omega) (by omega) (by rw [swapRange_size]; exact h3))
theorem rot_get (m : Nat) : ∀ (f i j : Nat) (d : Array α), 0 < i → 0 < j → i + j ≤ f → i ≤ m → m + j ≤ d.size → ∀ p, (rot m f i j d)[p]! = if m - i ≤ p ∧ p < m - i + j then d[p + i]! else if m - i + j ≤ p ∧ p < m + j then d[p - j]! else d[p]!
 | 0, i, j, d, h1, h2, h3, h4, h5, p => by omega
 | f + 1, i, j, d, h1, h2, h3, h4, h5, p => by
  unfold rot
  split
  ·rename_i c
   subst c
   rw [swapRange_get (m - i) m i 0 d (by omega) (by omega) p]
   by_cases c1 : m - i ≤ p ∧ p < m - i + i
   ·rw [if_pos (by omega), if_pos c1]; congr 1; omega
   ·rw [if_neg (by omega), if_neg c1]
    by_cases c2 : m - i + i ≤ p ∧ p < m + i
    ·rw [if_pos (by omega), if_pos c2]; congr 1; omega
    ·rw [if_neg (by omega), if_neg c2]
  ·split
   ·rename_i c c'
    rw [rot_get m f (i - j) j _ (by omega) h2 (by omega) (by omega) (by rw [swapRange_size]; exact h5) p]
    have g := fun q => swapRange_get (m - i) m j 0 d (by omega) (by omega) q
    rw [g, g, g]
    by_cases c1 : m - i ≤ p ∧ p < m - i + j
    ·rw [if_neg (by omega), if_neg (by omega), if_pos (by omega), if_pos c1]; congr 1; omega
    ·rw [if_neg c1]
     by_cases c2 : m - i + j ≤ p ∧ p < m + j
     ·rw [if_pos c2]
      by_cases c3 : p < m - (i - j) + j
      ·rw [if_pos (by omega), if_neg (by omega), if_pos (by omega)]; congr 1; omega
      ·rw [if_neg (by omega), if_pos (by omega), if_neg (by omega), if_neg (by omega)]
     ·rw [if_neg c2, if_neg (by omega), if_neg (by omega), if_neg (by omega), if_neg (by omega)]
   ·rename_i c c'
    rw [rot_get m f i (j - i) _ h1 (by omega) (by omega) h4 (by rw [swapRange_size]; omega) p]
    have g := fun q => swapRange_get (m - i) (m + j - i) i 0 d (by omega) (by omega) q
    rw [g, g, g]
    by_cases c1 : m - i ≤ p ∧ p < m - i + j
    ·rw [if_pos c1]
     by_cases c3 : p < m - i + (j - i)
     ·rw [if_pos (by omega), if_neg (by omega), if_neg (by omega)]
     ·rw [if_neg (by omega)]
      by_cases c4 : p < m + (j - i)
      ·rw [if_pos (by omega), if_pos (by omega)]; congr 1; omega
      ·omega
    ·rw [if_neg c1]
     by_cases c2 : m - i + j ≤ p ∧ p < m + j
     ·rw [if_pos c2, if_neg (by omega), if_neg (by omega), if_neg (by omega), if_pos (by omega)]; congr 1; omega
     ·rw [if_neg c2, if_neg (by omega), if_neg (by omega), if_neg (by omega), if_neg (by omega)]
def up : Nat → Nat → Array α → Array α
 | 0, _, d => d
 | n + 1, k, d => up n (k + 1) (swp d k (k + 1))
theorem up_permIn (lo hi : Nat) : ∀ (n k : Nat) (d : Array α), lo ≤ k → k + n < hi → hi ≤ d.size → PermIn lo hi d (up n k d)
 | 0, k, d, _, _, _ => permIn_refl d lo hi
 | n + 1, k, d, h1, h2, h3 => permIn_trans _ _ _ lo hi (swp_permIn d lo hi k (k + 1) h1 (by omega) (by omega) (by omega) h3) (up_permIn lo hi n (k + 1) _ (by omega) (by omega) (by rw [size_swp]; exact h3))
theorem up_get : ∀ (n k : Nat) (d : Array α), k + n < d.size → ∀ p, (up n k d)[p]! = if k ≤ p ∧ p < k + n then d[p + 1]! else if p = k + n then d[k]! else d[p]!
 | 0, k, d, h, p => by
  rw [if_neg (by omega)]
  split
  ·rename_i c; rw [c]; rfl
  ·rfl
 | n + 1, k, d, h, p => by
  unfold up
  rw [up_get n (k + 1) _ (by rw [size_swp]; omega) p]
  have g := fun q => swp_get d (i := k) (j := k + 1) (by omega) (by omega) (by omega) q
  rw [g, g, g]
  by_cases c1 : p = k
  ·subst c1
   rw [if_neg (by omega), if_neg (by omega), if_pos rfl, if_pos (by omega)]
  by_cases c2 : k + 1 ≤ p ∧ p < k + 1 + n
  ·rw [if_pos c2, if_neg (by omega), if_neg (by omega), if_pos (by omega)]
  ·rw [if_neg c2, if_neg (show ¬ (k ≤ p ∧ p < k + (n + 1)) by omega)]
   by_cases c3 : p = k + 1 + n
   ·rw [if_pos c3, if_neg (by omega), if_pos rfl, if_pos (by omega)]
   ·rw [if_neg c3, if_neg (show ¬ p = k + (n + 1) by omega), if_neg c1, if_neg (by omega)]
def down : Nat → Nat → Array α → Array α
 | 0, _, d => d
 | n + 1, k, d => down n (k - 1) (swp d k (k - 1))
theorem down_permIn (lo hi : Nat) : ∀ (n k : Nat) (d : Array α), lo + n ≤ k → k < hi → hi ≤ d.size → PermIn lo hi d (down n k d)
 | 0, k, d, _, _, _ => permIn_refl d lo hi
 | n + 1, k, d, h1, h2, h3 => permIn_trans _ _ _ lo hi (swp_permIn d lo hi k (k - 1) (by omega) (by omega) (by omega) (by omega) h3) (down_permIn lo hi n (k - 1) _ (by omega) (by omega) (by rw [size_swp]; exact h3))
theorem down_get : ∀ (n k : Nat) (d : Array α), n ≤ k → k < d.size → ∀ p, (down n k d)[p]! = if p = k - n then d[k]! else if k - n < p ∧ p ≤ k then d[p - 1]! else d[p]!
 | 0, k, d, h, h', p => by
  rw [Nat.sub_zero]
  split
  ·rename_i c; rw [c]; rfl
  ·rw [if_neg (by omega)]; rfl
 | n + 1, k, d, h, h', p => by
  unfold down
  rw [down_get n (k - 1) _ (by omega) (by rw [size_swp]; omega) p]
  have g := fun q => swp_get d (i := k) (j := k - 1) (by omega) (by omega) (by omega) q
  rw [g, g, g]
  by_cases c1 : p = k - (n + 1)
  ·rw [if_pos (by omega), if_neg (by omega), if_pos rfl, if_pos c1]
  ·rw [if_neg (by omega), if_neg c1]
   by_cases c2 : p = k
   ·subst c2
    rw [if_neg (by omega), if_pos rfl, if_pos (by omega)]
   by_cases c3 : k - 1 - n < p ∧ p ≤ k - 1
   ·rw [if_pos c3, if_pos (show k - (n + 1) < p ∧ p ≤ k by omega), if_neg (by omega), if_neg (by omega)]
   ·rw [if_neg c3, if_neg (show ¬ (k - (n + 1) < p ∧ p ≤ k) by omega), if_neg c2, if_neg (by omega)]
end
def bs (P : Nat → Bool) : Nat → Nat → Nat → Nat
 | 0, i, _ => i
 | f + 1, i, j => if i < j then (if P ((i + j) / 2) then bs P f ((i + j) / 2 + 1) j else bs P f i ((i + j) / 2)) else i
theorem bs_ok (P : Nat → Bool) : ∀ (f i j : Nat), i ≤ j → j - i ≤ f → i ≤ bs P f i j ∧ bs P f i j ≤ j ∧ (bs P f i j = i ∨ P (bs P f i j - 1) = true) ∧ (bs P f i j = j ∨ P (bs P f i j) = false)
 | 0, i, j, h1, h2 => ⟨Nat.le_refl _, h1, .inl rfl, .inl (show i = j by omega)⟩
 | f + 1, i, j, h1, h2 => by
  unfold bs
  split
  ·rename_i c
   split
   ·rename_i hp
    obtain ⟨g1, g2, g3, g4⟩ := bs_ok P f ((i + j) / 2 + 1) j (by omega) (by omega)
    refine ⟨by omega, g2, .inr ?_, g4⟩
    rcases g3 with g3 | g3
    ·rw [g3]; exact hp
    ·exact g3
   ·rename_i hp
    obtain ⟨g1, g2, g3, g4⟩ := bs_ok P f i ((i + j) / 2) (by omega) (by omega)
    refine ⟨g1, by omega, g3, .inr ?_⟩
    rcases g4 with g4 | g4
    ·rw [g4]; simpa using hp
    ·exact g4
  ·exact ⟨Nat.le_refl _, h1, .inl rfl, .inl (by omega)⟩
section
variable {α : Type} [Inhabited α] (lt : α → α → Bool)
def cut (a m b : Nat) (d : Array α) : Nat :=
 if m > (a + b) / 2 then bs (fun c => !lt d[(a + b) / 2 + m - 1 - c]! d[c]!) (b - a) ((a + b) / 2 + m - b) ((a + b) / 2) else bs (fun c => !lt d[(a + b) / 2 + m - 1 - c]! d[c]!) (b - a) a m
def rotIf (s m e : Nat) (d : Array α) : Array α := if s < m ∧ m < e then rot m (e - s) (m - s) (e - m) d else d
def symMerge : Nat → Nat → Nat → Nat → Array α → Array α
 | 0, _, _, _, d => d
 | f + 1, a, m, b, d =>
  if m - a = 1 then up (bs (fun h => lt d[h]! d[a]!) (b - m) m b - 1 - a) a d
  else if b - m = 1 then down (m - bs (fun h => !lt d[m]! d[h]!) (m - a) a m) m d
  else
   let s := cut lt a m b d
   let e := (a + b) / 2 + m - s
   let d1 := rotIf s m e d
   let d2 := if a < s ∧ s < (a + b) / 2 then symMerge f a s ((a + b) / 2) d1 else d1
   if (a + b) / 2 < e ∧ e < b then symMerge f ((a + b) / 2) e b d2 else d2
variable {lt} {lt' : α → α → Bool}
omit [Inhabited α] in
theorem swo_asymm (h : SWO lt') {x y : α} (e : lt' x y = true) : lt' y x = false := by
 cases c : lt' y x with
 | false => rfl
 | true => have := h.trans _ _ _ e c; rw [h.irrefl] at this; cases this
theorem rotIf_get {s m e : Nat} {d : Array α} (h1 : s ≤ m) (h2 : m ≤ e) (h3 : e ≤ d.size) (p : Nat) : (rotIf s m e d)[p]! = if s ≤ p ∧ p < s + (e - m) then d[p + (m - s)]! else if s + (e - m) ≤ p ∧ p < e then d[p - (e - m)]! else d[p]! := by
 unfold rotIf
 split
 ·rw [rot_get m (e - s) (m - s) (e - m) d (by omega) (by omega) (by omega) (by omega) (by omega) p]
  by_cases c1 : s ≤ p ∧ p < s + (e - m)
  ·rw [if_pos (by omega), if_pos c1]
  ·rw [if_neg (by omega), if_neg c1]
   by_cases c2 : s + (e - m) ≤ p ∧ p < e
   ·rw [if_pos (by omega), if_pos c2]
   ·rw [if_neg (by omega), if_neg c2]
 ·by_cases c1 : s ≤ p ∧ p < s + (e - m)
  ·rw [if_pos c1]; congr 1; omega
  ·rw [if_neg c1]
   by_cases c2 : s + (e - m) ≤ p ∧ p < e
   ·rw [if_pos c2]; congr 1; omega
   ·rw [if_neg c2]
theorem rotIf_size (s m e : Nat) (d : Array α) : (rotIf s m e d).size = d.size := by
 unfold rotIf
 split
 ·exact rot_size _ _ _ _ _
 ·rfl
theorem rotIf_permIn {a b s m e : Nat} {d : Array α} (h0 : a ≤ s) (h1 : s ≤ m) (h2 : m ≤ e) (h3 : e ≤ b) (h4 : b ≤ d.size) : PermIn a b d (rotIf s m e d) := by
 unfold rotIf
 split
 ·exact rot_permIn a b m _ _ _ d (by omega) (by omega) h4
 ·exact permIn_refl d a b
theorem symMerge_ok (hS : SWO lt') : ∀ (f a m b : Nat) (d : Array α), a < m → m < b → b ≤ d.size → b - a ≤ f → SortedIn lt' a m d → SortedIn lt' m b d → (∀ i j, m ≤ i → i < b → a ≤ j → j < m → lt d[i]! d[j]! = lt' d[i]! d[j]!) →
  PermIn a b d (symMerge lt f a m b d) ∧ SortedIn lt' a b (symMerge lt f a m b d)
 | 0, a, m, b, d, h1, h2, h3, h4, _, _, _ => by omega
 | f + 1, a, m, b, d, h1, h2, h3, h4, sL, sR, hA => by
  have nl : ∀ {x y z : α}, lt' x y = true → lt' z y = false → lt' x z = true := fun {x y z} e1 e2 => by
   cases c : lt' x z with
   | true => rfl
   | false => have := hS.ntrans _ _ _ c e2; rw [e1] at this; cases this
  unfold symMerge
  split
  ·rename_i c1
   obtain ⟨g1, g2, g3, g4⟩ := bs_ok (fun h => lt d[h]! d[a]!) (b - m) m b (by omega) (Nat.le_refl _)
   generalize bs (fun h => lt d[h]! d[a]!) (b - m) m b = i at *
   have ma : m = a + 1 := by omega
   subst ma
   have g3' : i = a + 1 ∨ lt' d[i - 1]! d[a]! = true := g3.elim .inl fun g => by
    by_cases c : i = a + 1
    ·exact .inl c
    ·exact .inr (by rw [← hA (i - 1) a (by omega) (by omega) (by omega) (by omega)]; exact g)
   have g4' : i = b ∨ lt' d[i]! d[a]! = false := g4.elim .inl fun g => by
    by_cases c : i = b
    ·exact .inl c
    ·exact .inr (by rw [← hA i a (by omega) (by omega) (by omega) (by omega)]; exact g)
   refine ⟨up_permIn a b _ _ _ (Nat.le_refl _) (by omega) h3, fun p q hp hpq hq => ?_⟩
   have g := fun q => up_get (i - 1 - a) a d (by omega) q
   rw [g, g]
   by_cases cq : q < i - 1
   ·rw [if_pos (by omega), if_pos (by omega)]
    exact sR _ _ (by omega) (by omega) (by omega)
   by_cases cq2 : q = i - 1
   ·rw [if_neg (by omega), if_pos (by omega), if_pos (by omega)]
    have k1 := g3'.resolve_left (by omega)
    -- d[a] against d[p+1], p + 1 ≤ i - 1
    refine swo_asymm hS ?_
    by_cases c : p + 1 = i - 1
    ·rw [c]; exact k1
    ·have k2 := sR (p + 1) (i - 1) (by omega) (by omega) (by omega)
     -- not d[i-1] < d[p+1]; d[i-1] < d[a]
     cases c5 : lt' d[p + 1]! d[a]! with
     | true => rfl
     | false => have := hS.ntrans _ _ _ k2 c5; rw [k1] at this; cases this
   ·rw [if_neg (show ¬ (a ≤ q ∧ q < a + (i - 1 - a)) by omega), if_neg (show ¬ q = a + (i - 1 - a) by omega)]
    have k1 := g4'.resolve_left (by omega)
    by_cases cp : p < i - 1
    ·rw [if_pos (by omega)]
     exact sR _ _ (by omega) (by omega) (by omega)
    by_cases cp2 : p = i - 1
    ·rw [if_neg (by omega), if_pos (by omega)]
     by_cases c : q = i
     ·subst c; exact k1
     ·exact hS.ntrans _ _ _ (sR i q (by omega) (by omega) (by omega)) k1
    ·rw [if_neg (by omega), if_neg (by omega)]
     exact sR _ _ (by omega) (by omega) (by omega)
  split
  ·rename_i c1 c2
   obtain ⟨g1, g2, g3, g4⟩ := bs_ok (fun h => !lt d[m]! d[h]!) (m - a) a m (by omega) (Nat.le_refl _)
   generalize bs (fun h => !lt d[m]! d[h]!) (m - a) a m = i at *
   have mb : b = m + 1 := by omega
   subst mb
   have g3' : i = a ∨ lt' d[m]! d[i - 1]! = false := g3.elim .inl fun g => by
    by_cases c : i = a
    ·exact .inl c
    ·exact .inr (by rw [← hA m (i - 1) (by omega) (by omega) (by omega) (by omega)]; simpa using g)
   have g4' : i = m ∨ lt' d[m]! d[i]! = true := g4.elim .inl fun g => by
    by_cases c : i = m
    ·exact .inl c
    ·exact .inr (by rw [← hA m i (by omega) (by omega) (by omega) (by omega)]; simpa using g)
   refine ⟨down_permIn a (m + 1) _ _ _ (by omega) (by omega) h3, fun p q hp hpq hq => ?_⟩
   have g := fun q => down_get (m - i) m d (by omega) (by omega) q
   rw [g, g]
   by_cases cq : q < i
   ·rw [if_neg (by omega), if_neg (by omega), if_neg (by omega), if_neg (by omega)]
    exact sL _ _ (by omega) (by omega) (by omega)
   by_cases cq2 : q = i
   ·rw [if_pos (by omega), if_neg (by omega), if_neg (by omega)]
    have k1 := g3'.resolve_left (by omega)
    by_cases c : p = i - 1
    ·rw [c]; exact k1
    ·exact hS.ntrans _ _ _ k1 (sL p (i - 1) (by omega) (by omega) (by omega))
   ·rw [if_neg (show ¬ q = m - (m - i) by omega), if_pos (by omega)]
    have k1 := g4'.resolve_left (by omega)
    by_cases cp : p = i
    ·rw [if_pos (by omega)]
     refine swo_asymm hS ?_
     by_cases c : q - 1 = i
     ·rw [c]; exact k1
     ·exact nl k1 (sL i (q - 1) (by omega) (by omega) (by omega))
    ·rw [if_neg (show ¬ p = m - (m - i) by omega)]
     by_cases cp2 : p < i
     ·rw [if_neg (by omega)]
      by_cases c : p = q - 1
      ·omega
      ·exact sL _ _ (by omega) (by omega) (by omega)
     ·rw [if_pos (by omega)]
      exact sL _ _ (by omega) (by omega) (by omega)
  ·rename_i c1 c2
   -- the cut
   have hc : ∃ lo hi, cut lt a m b d = bs (fun c => !lt d[(a + b) / 2 + m - 1 - c]! d[c]!) (b - a) lo hi ∧ lo ≤ hi ∧ a ≤ lo ∧ hi ≤ m ∧ hi ≤ (a + b) / 2 ∧ m ≤ (a + b) / 2 + m - hi ∧ (a + b) / 2 + m - lo ≤ b ∧ (lo = a ∨ (a + b) / 2 + m - lo = b) ∧ (hi = m ∨ (a + b) / 2 + m - hi = m) ∧ lo ≤ (a + b) / 2 + m := by
    unfold cut
    split
    ·exact ⟨(a + b) / 2 + m - b, (a + b) / 2, rfl, by omega, by omega, by omega, by omega, by omega, by omega, by omega, by omega, by omega⟩
    ·exact ⟨a, m, rfl, by omega, by omega, by omega, by omega, by omega, by omega, by omega, by omega, by omega⟩
   obtain ⟨lo, hi, hcut, l1, l2, l3, l4, l5, l6, l7, l8, l9⟩ := hc
   obtain ⟨g1, g2, g3, g4⟩ := bs_ok (fun c => !lt d[(a + b) / 2 + m - 1 - c]! d[c]!) (b - a) lo hi l1 (by omega)
   rw [← hcut] at g1 g2 g3 g4
   clear hcut
   generalize cut lt a m b d = s at *
   dsimp only
   obtain ⟨e, he⟩ : ∃ e, e = (a + b) / 2 + m - s := ⟨_, rfl⟩
   obtain ⟨mid, hmid⟩ : ∃ mid, mid = (a + b) / 2 := ⟨_, rfl⟩
   rw [← hmid] at he l4 l5 l6 l7 l8 l9 g3 g4 ⊢
   rw [← he]
   have e1 : m ≤ e := by omega
   have e2 : e ≤ b := by omega
   have e3 : s + (e - m) = mid := by omega
   have e4 : s ≤ mid := by omega
   have e5 : mid ≤ e := by omega
   -- L[s-1] is not above R[e]
   have k1 : s = a ∨ e = b ∨ lt' d[e]! d[s - 1]! = false := by
    rcases g3 with g3 | g3
    ·rcases l7 with l7 | l7
     ·exact .inl (by omega)
     ·exact .inr (.inl (by omega))
    ·by_cases c : s = lo
     ·rcases l7 with l7 | l7
      ·exact .inl (by omega)
      ·exact .inr (.inl (by omega))
     ·by_cases c' : e = b
      ·exact .inr (.inl c')
      ·refine .inr (.inr ?_)
       rw [show mid + m - 1 - (s - 1) = e by omega] at g3
       rw [← hA e (s - 1) (by omega) (by omega) (by omega) (by omega)]
       simpa using g3
   -- R[e-1] is below L[s]
   have k2 : e = m ∨ s = m ∨ lt' d[e - 1]! d[s]! = true := by
    rcases g4 with g4 | g4
    ·rcases l8 with l8 | l8
     ·exact .inr (.inl (by omega))
     ·exact .inl (by omega)
    ·by_cases c : e = m
     ·exact .inl c
     ·by_cases c' : s = m
      ·exact .inr (.inl c')
      ·refine .inr (.inr ?_)
       rw [show mid + m - 1 - s = e - 1 by omega] at g4
       rw [← hA (e - 1) s (by omega) (by omega) (by omega) (by omega)]
       simpa using g4
   have P1 : PermIn a b d (rotIf s m e d) := rotIf_permIn (by omega) (by omega) e1 e2 h3
   have G := fun p => rotIf_get (s := s) (m := m) (e := e) (d := d) (by omega) e1 (by omega) p
   rw [e3] at G
   have z1 := rotIf_size s m e d
   generalize rotIf s m e d = d1 at *
   -- what stands where
   have q1 : ∀ p, p < s → d1[p]! = d[p]! := fun p hp => by rw [G, if_neg (by omega), if_neg (by omega)]
   have q2 : ∀ p, s ≤ p → p < mid → d1[p]! = d[p + (m - s)]! := fun p h h' => by rw [G, if_pos ⟨h, h'⟩]
   have q3 : ∀ p, mid ≤ p → p < e → d1[p]! = d[p - (e - m)]! := fun p h h' => by rw [G, if_neg (by omega), if_pos ⟨h, h'⟩]
   have q4 : ∀ p, e ≤ p → d1[p]! = d[p]! := fun p h => by rw [G, if_neg (by omega), if_neg (by omega)]
   have s1 : SortedIn lt' a s d1 := fun p q hp hpq hq => by rw [q1 p (by omega), q1 q (by omega)]; exact sL _ _ (by omega) (by omega) (by omega)
   have s2 : SortedIn lt' s mid d1 := fun p q hp hpq hq => by rw [q2 p (by omega) (by omega), q2 q (by omega) (by omega)]; exact sR _ _ (by omega) (by omega) (by omega)
   have s3 : SortedIn lt' mid e d1 := fun p q hp hpq hq => by rw [q3 p (by omega) (by omega), q3 q (by omega) (by omega)]; exact sL _ _ (by omega) (by omega) (by omega)
   have s4 : SortedIn lt' e b d1 := fun p q hp hpq hq => by rw [q4 p (by omega), q4 q (by omega)]; exact sR _ _ (by omega) (by omega) (by omega)
   have cross : ∀ i j, a ≤ i → i < mid → mid ≤ j → j < b → lt' d1[j]! d1[i]! = false := by
    intro i j i1 i2 j1 j2
    by_cases ci : i < s
    ·rw [q1 i ci]
     by_cases cj : j < e
     ·rw [q3 j j1 cj]; exact sL _ _ (by omega) (by omega) (by omega)
     ·rw [q4 j (by omega)]
      have k := (k1.resolve_left (by omega)).resolve_left (by omega)
      have k' : lt' d[e]! d[i]! = false := by
       by_cases c : i = s - 1
       ·rw [c]; exact k
       ·exact hS.ntrans _ _ _ k (sL i (s - 1) (by omega) (by omega) (by omega))
      by_cases c : j = e
      ·rw [c]; exact k'
      ·exact hS.ntrans _ _ _ (sR e j (by omega) (by omega) (by omega)) k'
    ·rw [q2 i (by omega) i2]
     by_cases cj : j < e
     ·rw [q3 j j1 cj]
      have k := (k2.resolve_left (by omega)).resolve_left (by omega)
      refine swo_asymm hS ?_
      have k' : lt' d[i + (m - s)]! d[s]! = true := by
       by_cases c : i + (m - s) = e - 1
       ·rw [c]; exact k
       ·cases c5 : lt' d[i + (m - s)]! d[s]! with
        | true => rfl
        | false => have := hS.ntrans _ _ _ (sR (i + (m - s)) (e - 1) (by omega) (by omega) (by omega)) c5; rw [k] at this; cases this
      by_cases c : j - (e - m) = s
      ·rw [c]; exact k'
      ·exact nl k' (sL s (j - (e - m)) (by omega) (by omega) (by omega))
     ·rw [q4 j (by omega)]; exact sR _ _ (by omega) (by omega) (by omega)
   have A1 : ∀ i j, s ≤ i → i < mid → a ≤ j → j < s → lt d1[i]! d1[j]! = lt' d1[i]! d1[j]! := fun i j i1 i2 j1 j2 => by
    rw [q2 i i1 i2, q1 j j2]; exact hA _ _ (by omega) (by omega) (by omega) (by omega)
   have A2 : ∀ i j, e ≤ i → i < b → mid ≤ j → j < e → lt d1[i]! d1[j]! = lt' d1[i]! d1[j]! := fun i j i1 i2 j1 j2 => by
    rw [q4 i i1, q3 j j1 j2]; exact hA _ _ (by omega) (by omega) (by omega) (by omega)
   have R1 : PermIn a mid d1 (if a < s ∧ s < mid then symMerge lt f a s mid d1 else d1) ∧ SortedIn lt' a mid (if a < s ∧ s < mid then symMerge lt f a s mid d1 else d1) := by
    split
    ·rename_i c
     exact symMerge_ok hS f a s mid d1 c.1 c.2 (by omega) (by omega) s1 s2 A1
    ·rename_i c
     refine ⟨permIn_refl _ _ _, ?_⟩
     by_cases c' : a = s
     ·rw [c']; exact s2
     ·rw [show mid = s by omega]; exact s1
   generalize (if a < s ∧ s < mid then symMerge lt f a s mid d1 else d1) = d2 at *
   have z2 : d2.size = d1.size := R1.1.1
   have o2 : ∀ p, mid ≤ p → d2[p]! = d1[p]! := fun p hp => R1.1.2.1 p (.inr hp)
   have R2 : PermIn mid b d2 (if mid < e ∧ e < b then symMerge lt f mid e b d2 else d2) ∧ SortedIn lt' mid b (if mid < e ∧ e < b then symMerge lt f mid e b d2 else d2) := by
    have s3' : SortedIn lt' mid e d2 := fun p q hp hpq hq => by rw [o2 p (by omega), o2 q (by omega)]; exact s3 p q hp hpq hq
    have s4' : SortedIn lt' e b d2 := fun p q hp hpq hq => by rw [o2 p (by omega), o2 q (by omega)]; exact s4 p q hp hpq hq
    split
    ·rename_i c
     exact symMerge_ok hS f mid e b d2 c.1 c.2 (by omega) (by omega) s3' s4' (fun i j i1 i2 j1 j2 => by rw [o2 i (by omega), o2 j (by omega)]; exact A2 i j i1 i2 j1 j2)
    ·rename_i c
     refine ⟨permIn_refl _ _ _, ?_⟩
     by_cases c' : mid = e
     ·rw [c']; exact s4'
     ·rw [show b = e by omega]; exact s3'
   generalize (if mid < e ∧ e < b then symMerge lt f mid e b d2 else d2) = d3 at *
   have o3 : ∀ p, p < mid → d3[p]! = d2[p]! := fun p hp => R2.1.2.1 p (.inl hp)
   have P2 : PermIn a b d1 d2 := permIn_mono d1 d2 a mid a b (Nat.le_refl _) (by omega) (by omega) R1.1
   have P3 : PermIn a b d2 d3 := permIn_mono d2 d3 mid b a b (by omega) (Nat.le_refl _) (by omega) R2.1
   refine ⟨permIn_trans _ _ _ a b P1 (permIn_trans _ _ _ a b P2 P3), fun p q hp hpq hq => ?_⟩
   by_cases cq : q < mid
   ·rw [o3 p (by omega), o3 q cq]; exact R1.2 p q hp hpq cq
   by_cases cp : p < mid
   ·-- across
    rw [o3 p cp]
    have c1' : ∀ j, mid ≤ j → j < b → lt' d3[j]! d2[p]! = false := by
     have c0 : ∀ j, mid ≤ j → j < b → lt' d2[j]! d2[p]! = false := fun j j1 j2 => by
      rw [o2 j j1]
      exact permIn_all d1 d2 a mid (fun x => lt' d1[j]! x = false) (by omega) R1.1 (fun i i1 i2 => cross i j i1 i2 j1 j2) p hp cp
     exact permIn_all d2 d3 mid b (fun x => lt' x d2[p]! = false) (by omega) R2.1 c0
    exact c1' q (by omega) hq
   ·exact R2.2 p q (by omega) hpq hq
end
section
variable {α : Type} [Inhabited α] (lt lt' : α → α → Bool)
theorem insInner_permIn (a b : Nat) : ∀ (j : Nat) (d : Array α), a ≤ j → j < b → b ≤ d.size → PermIn a b d (insInner lt a j d)
 | 0, d, _, _, _ => by unfold insInner; exact permIn_refl d a b
 | j + 1, d, h1, h2, h3 => by
  unfold insInner
  split
  ·rename_i c
   simp only [Bool.and_eq_true, decide_eq_true_eq] at c
   exact permIn_trans _ _ _ a b (swp_permIn d a b (j + 1) j h1 h2 (by omega) (by omega) h3) (insInner_permIn a b j _ (by omega) (by omega) (by rw [size_swp]; exact h3))
  ·exact permIn_refl d a b
theorem insInner_eq (a : Nat) : ∀ (j : Nat) (d : Array α), j < d.size → (∀ q, a ≤ q → q < j → lt d[j]! d[q]! = lt' d[j]! d[q]!) → insInner lt a j d = insInner lt' a j d
 | 0, d, _, _ => by unfold insInner; rfl
 | j + 1, d, h1, h2 => by
  unfold insInner
  by_cases c : j + 1 > a
  ·rw [h2 j (by omega) (by omega), insInner_eq a j (swp d (j + 1) j) (by rw [size_swp]; omega) (fun q q1 q2 => by
    have g := fun q => swp_get d (i := j + 1) (j := j) (by omega) (by omega) (by omega) q
    rw [g, g, if_neg (by omega), if_pos rfl, if_neg (by omega), if_neg (by omega)]
    exact h2 q q1 (by omega))]
  ·rw [show decide (j + 1 > a) = false from decide_eq_false c, Bool.false_and, Bool.false_and, if_neg (by decide), if_neg (by decide)]
end
section
variable {lt lt' : Nat → Nat → Bool} (hA : ∀ x y, y < x → lt x y = lt' x y) (hS : SWO lt')
include hA in
theorem insOuter_eq (a b : Nat) : ∀ (n i : Nat) (d : Array Nat), b - i = n → a ≤ i → b ≤ d.size → (∀ p, i ≤ p → p < b → d[p]! = p) → (∀ p, a ≤ p → p < i → d[p]! < i) → insOuter lt a b i d = insOuter lt' a b i d
 | 0, i, d, h1, h2, h3, h4, h5 => by
  rw [insOuter, if_neg (by omega), insOuter, if_neg (by omega)]
 | n + 1, i, d, h1, h2, h3, h4, h5 => by
  have hi : i < b := by omega
  have e := insInner_eq lt lt' a i d (by omega) (fun q q1 q2 => hA _ _ (by rw [h4 i (Nat.le_refl _) hi]; exact h5 q q1 q2))
  have P := insInner_permIn lt' a (i + 1) i d h2 (by omega) (by omega)
  rw [insOuter, if_pos hi, e]
  conv => rhs; rw [insOuter, if_pos hi]
  refine insOuter_eq a b n (i + 1) _ (by omega) (by omega) (by rw [P.1]; exact h3) (fun p p1 p2 => by rw [P.2.1 p (.inr p1)]; exact h4 p (by omega) p2) ?_
  exact permIn_all d _ a (i + 1) (fun x => x < i + 1) (by omega) P (fun p p1 p2 => by
   by_cases c : p = i
   ·rw [c, h4 i (Nat.le_refl _) hi]; omega
   ·have := h5 p p1 (by omega); omega)
include hA hS in
theorem insertionSort_ok (a b : Nat) (d : Array Nat) (h1 : a ≤ b) (h2 : b ≤ d.size) (h3 : ∀ p, a ≤ p → p < b → d[p]! = p) : PermIn a b d (insertionSort lt d a b) ∧ SortedIn lt' a b (insertionSort lt d a b) := by
 by_cases c : a = b
 ·subst c
  unfold insertionSort
  rw [insOuter, if_neg (by omega)]
  exact ⟨permIn_refl d a a, fun i j g1 g2 g3 => by omega⟩
 have e : insertionSort lt d a b = insertionSort lt' d a b := insOuter_eq hA a b _ (a + 1) d rfl (by omega) h2 (fun p p1 p2 => h3 p (by omega) p2) (fun p p1 p2 => by rw [h3 p p1 (by omega)]; exact p2)
 rw [e]
 exact insertionSort_holds hS d a b h1 h2
variable (lt lt')
def blocks (n : Nat) : Nat → Nat → Array Nat → Array Nat
 | 0, _, d => d
 | f + 1, a, d => if a + 20 ≤ n then blocks n f (a + 20) (insertionSort lt d a (a + 20)) else insertionSort lt d a n
def pass (n bs : Nat) : Nat → Nat → Array Nat → Array Nat
 | 0, _, d => d
 | f + 1, a, d => if a + 2 * bs ≤ n then pass n bs f (a + 2 * bs) (symMerge lt (2 * bs) a (a + bs) (a + 2 * bs) d) else if a + bs < n then symMerge lt (n - a) a (a + bs) n d else d
def passes (n : Nat) : Nat → Nat → Array Nat → Array Nat
 | 0, _, d => d
 | f + 1, bs, d => if bs < n then passes n f (2 * bs) (pass lt n bs (n + 1) 0 d) else d
def stable (n : Nat) (d : Array Nat) : Array Nat := passes lt n n 20 (blocks lt n (n + 1) 0 d)
def Good (n bs a : Nat) (d : Array Nat) : Prop := ∀ k, a ≤ k * bs → SortedIn lt' (k * bs) (min (k * bs + bs) n) d ∧ ∀ p, k * bs ≤ p → p < min (k * bs + bs) n → k * bs ≤ d[p]! ∧ d[p]! < k * bs + bs
variable {lt lt'}
theorem Good.congr {n bs a : Nat} {d d' : Array Nat} (h : Good lt' n bs a d) (he : ∀ p, a ≤ p → d'[p]! = d[p]!) : Good lt' n bs a d' := fun k hk => by
 obtain ⟨h1, h2⟩ := h k hk
 exact ⟨fun p q g1 g2 g3 => by rw [he p (by omega), he q (by omega)]; exact h1 p q g1 g2 g3, fun p g1 g2 => by rw [he p (by omega)]; exact h2 p g1 g2⟩
include hA hS in
theorem blocks_ok (n : Nat) : ∀ (f K : Nat) (d : Array Nat), n - K * 20 < f → K * 20 ≤ n → n = d.size → (∀ p, K * 20 ≤ p → p < n → d[p]! = p) →
  PermIn (K * 20) n d (blocks lt n f (K * 20) d) ∧ Good lt' n 20 (K * 20) (blocks lt n f (K * 20) d)
 | 0, K, d, h1, h2, h3, h4 => by omega
 | f + 1, K, d, h1, h2, h3, h4 => by
  unfold blocks
  split
  ·rename_i c
   obtain ⟨P, S⟩ := insertionSort_ok hA hS (K * 20) (K * 20 + 20) d (by omega) (by omega) (fun p p1 p2 => h4 p p1 (by omega))
   have hall := permIn_all d _ (K * 20) (K * 20 + 20) (fun x => K * 20 ≤ x ∧ x < K * 20 + 20) (by omega) P (fun p p1 p2 => by rw [h4 p p1 (by omega)]; omega)
   generalize insertionSort lt d (K * 20) (K * 20 + 20) = d1 at *
   have z1 := P.1
   have eK : K * 20 + 20 = (K + 1) * 20 := by omega
   rw [eK] at P S hall ⊢
   obtain ⟨P2, G2⟩ := blocks_ok n f (K + 1) d1 (by omega) (by omega) (by omega) (fun p p1 p2 => by rw [P.2.1 p (.inr p1)]; exact h4 p (by omega) p2)
   have ho : ∀ p, p < (K + 1) * 20 → (blocks lt n f ((K + 1) * 20) d1)[p]! = d1[p]! := fun p hp => P2.2.1 p (.inl hp)
   generalize blocks lt n f ((K + 1) * 20) d1 = r at *
   refine ⟨permIn_trans _ _ _ _ _ (permIn_mono d d1 (K * 20) ((K + 1) * 20) (K * 20) n (Nat.le_refl _) (by omega) (by omega) P) (permIn_mono d1 r ((K + 1) * 20) n (K * 20) n (by omega) (Nat.le_refl _) (by omega) P2), fun k hk => ?_⟩
   by_cases ck : k = K
   ·subst ck
    rw [show min (k * 20 + 20) n = (k + 1) * 20 by omega]
    refine ⟨fun p q g1 g2 g3 => by rw [ho p (by omega), ho q (by omega)]; exact S p q g1 g2 g3, fun p g1 g2 => by rw [ho p g2]; have := hall p g1 g2; omega⟩
   ·exact G2 k (by omega)
  ·rename_i c
   obtain ⟨P, S⟩ := insertionSort_ok hA hS (K * 20) n d h2 (by omega) h4
   have hall := permIn_all d _ (K * 20) n (fun x => K * 20 ≤ x ∧ x < K * 20 + 20) (by omega) P (fun p p1 p2 => by rw [h4 p p1 (by omega)]; omega)
   refine ⟨P, fun k hk => ?_⟩
   by_cases ck : k = K
   ·subst ck
    rw [show min (k * 20 + 20) n = n by omega]
    exact ⟨S, hall⟩
   ·rw [show min (k * 20 + 20) n = n by omega]
    exact ⟨fun p q g1 g2 g3 => by omega, fun p g1 g2 => by omega⟩
include hA hS in
theorem pass_ok (n bs : Nat) (hb : 0 < bs) : ∀ (f K : Nat) (d : Array Nat), n - K * (2 * bs) < f → n = d.size → Good lt' n bs (K * (2 * bs)) d →
  PermIn (min (K * (2 * bs)) n) n d (pass lt n bs f (K * (2 * bs)) d) ∧ Good lt' n (2 * bs) (K * (2 * bs)) (pass lt n bs f (K * (2 * bs)) d)
 | 0, K, d, h1, h2, h3 => by omega
 | f + 1, K, d, h1, h2, h3 => by
  have e0 : (2 * K) * bs = K * (2 * bs) := by rw [Nat.mul_comm 2 K, Nat.mul_assoc]
  have e1 : (2 * K + 1) * bs = K * (2 * bs) + bs := by rw [Nat.add_mul, e0, Nat.one_mul]
  have e2 : (K + 1) * (2 * bs) = K * (2 * bs) + 2 * bs := by rw [Nat.add_mul, Nat.one_mul]
  have far : ∀ k, k ≠ K → K * (2 * bs) ≤ k * (2 * bs) → K * (2 * bs) + 2 * bs ≤ k * (2 * bs) := fun k hk hle => by
   have : K < k := by
    rcases Nat.lt_or_gt_of_ne hk with g | g
    ·have := Nat.mul_le_mul_right (2 * bs) (show k + 1 ≤ K from g)
     rw [Nat.add_mul, Nat.one_mul] at this
     omega
    ·exact g
   have := Nat.mul_le_mul_right (2 * bs) (show K + 1 ≤ k from this)
   omega
  have B0 := h3 (2 * K) (by omega)
  have B1 := h3 (2 * K + 1) (by omega)
  rw [e0] at B0
  rw [e1] at B1
  obtain ⟨a, ha⟩ : ∃ a, a = K * (2 * bs) := ⟨_, rfl⟩
  rw [← ha] at B0 B1 far e2 h1 h3 ⊢
  unfold pass
  split
  ·rename_i c
   rw [show min (a + bs) n = a + bs by omega] at B0
   rw [show min (a + bs + bs) n = a + 2 * bs by omega] at B1
   obtain ⟨P, S⟩ := symMerge_ok (lt := lt) hS (2 * bs) a (a + bs) (a + 2 * bs) d (by omega) (by omega) (by omega) (by omega) B0.1 B1.1 (fun i j i1 i2 j1 j2 => hA _ _ (by have := B0.2 j j1 j2; have := B1.2 i i1 i2; omega))
   have hall := permIn_all d _ a (a + 2 * bs) (fun x => a ≤ x ∧ x < a + 2 * bs) (by omega) P (fun p p1 p2 => by
    by_cases cp : p < a + bs
    ·have := B0.2 p p1 cp; omega
    ·have := B1.2 p (by omega) p2; omega)
   generalize symMerge lt (2 * bs) a (a + bs) (a + 2 * bs) d = d1 at *
   have z1 := P.1
   rw [← e2]
   have h3' : Good lt' n bs ((K + 1) * (2 * bs)) d1 := Good.congr (d := d) (fun k hk => h3 k (by omega)) (fun p hp => P.2.1 p (.inr (by omega)))
   obtain ⟨P2, G2⟩ := pass_ok n bs hb f (K + 1) d1 (by omega) (by omega) h3'
   rw [show min ((K + 1) * (2 * bs)) n = a + 2 * bs by omega] at P2
   have ho : ∀ p, p < a + 2 * bs → (pass lt n bs f ((K + 1) * (2 * bs)) d1)[p]! = d1[p]! := fun p hp => P2.2.1 p (.inl hp)
   generalize pass lt n bs f ((K + 1) * (2 * bs)) d1 = r at *
   rw [show min a n = a by omega]
   refine ⟨permIn_trans _ _ _ _ _ (permIn_mono d d1 a (a + 2 * bs) a n (Nat.le_refl _) (by omega) (by omega) P) (permIn_mono d1 r (a + 2 * bs) n a n (by omega) (Nat.le_refl _) (by omega) P2), fun k hk => ?_⟩
   by_cases ck : k = K
   ·subst ck
    rw [← ha, show min (a + 2 * bs) n = a + 2 * bs by omega]
    refine ⟨fun p q g1 g2 g3 => by rw [ho p (by omega), ho q (by omega)]; exact S p q g1 g2 g3, fun p g1 g2 => by rw [ho p g2]; exact hall p g1 g2⟩
   ·exact G2 k (by have := far k ck hk; omega)
  ·split
   ·rename_i c c'
    rw [show min (a + bs) n = a + bs by omega] at B0
    rw [show min (a + bs + bs) n = n by omega] at B1
    obtain ⟨P, S⟩ := symMerge_ok (lt := lt) hS (n - a) a (a + bs) n d (by omega) (by omega) (by omega) (by omega) B0.1 B1.1 (fun i j i1 i2 j1 j2 => hA _ _ (by have := B0.2 j j1 j2; have := B1.2 i i1 i2; omega))
    have hall := permIn_all d _ a n (fun x => a ≤ x ∧ x < a + 2 * bs) (by omega) P (fun p p1 p2 => by
     by_cases cp : p < a + bs
     ·have := B0.2 p p1 cp; omega
     ·have := B1.2 p (by omega) p2; omega)
    rw [show min a n = a by omega]
    refine ⟨P, fun k hk => ?_⟩
    by_cases ck : k = K
    ·subst ck
     rw [← ha, show min (a + 2 * bs) n = n by omega]
     exact ⟨S, hall⟩
    ·have := far k ck hk
     rw [show min (k * (2 * bs) + 2 * bs) n = n by omega]
     exact ⟨fun p q g1 g2 g3 => by omega, fun p g1 g2 => by omega⟩
   ·rename_i c c'
    refine ⟨permIn_refl _ _ _, fun k hk => ?_⟩
    by_cases ck : k = K
    ·subst ck
     rw [← ha, show min (a + 2 * bs) n = n by omega]
     rw [show min (a + bs) n = n by omega] at B0
     exact ⟨B0.1, fun p g1 g2 => by have := B0.2 p g1 g2; omega⟩
    ·have := far k ck hk
     rw [show min (k * (2 * bs) + 2 * bs) n = n by omega]
     exact ⟨fun p q g1 g2 g3 => by omega, fun p g1 g2 => by omega⟩
include hA hS in
theorem passes_ok (n : Nat) : ∀ (f bs : Nat) (d : Array Nat), 0 < bs → n ≤ f + bs → n = d.size → Good lt' n bs 0 d → PermIn 0 n d (passes lt n f bs d) ∧ SortedIn lt' 0 n (passes lt n f bs d)
 | 0, bs, d, hb, h1, h2, h3 => by
  have g := h3 0 (by omega)
  rw [Nat.zero_mul, show min (0 + bs) n = n by omega] at g
  exact ⟨permIn_refl _ _ _, g.1⟩
 | f + 1, bs, d, hb, h1, h2, h3 => by
  unfold passes
  split
  ·rename_i c
   obtain ⟨P, G⟩ := pass_ok hA hS n bs hb (n + 1) 0 d (by omega) h2 (by rw [Nat.zero_mul]; exact h3)
   rw [Nat.zero_mul, Nat.zero_min] at P
   rw [Nat.zero_mul] at G
   have z := P.1
   obtain ⟨P2, S⟩ := passes_ok n f (2 * bs) _ (by omega) (by omega) (by omega) G
   exact ⟨permIn_trans _ _ _ _ _ P P2, S⟩
  ·have g := h3 0 (by omega)
   rw [Nat.zero_mul, show min (0 + bs) n = n by omega] at g
   exact ⟨permIn_refl _ _ _, g.1⟩
include hA hS in
theorem stable_ok (n : Nat) (d : Array Nat) (h2 : n = d.size) (h3 : ∀ p, p < n → d[p]! = p) : PermIn 0 n d (stable lt n d) ∧ SortedIn lt' 0 n (stable lt n d) := by
 obtain ⟨P, G⟩ := blocks_ok hA hS n (n + 1) 0 d (by omega) (by omega) h2 (fun p _ hp => h3 p hp)
 rw [Nat.zero_mul] at P G
 have z := P.1
 unfold stable
 obtain ⟨P2, S⟩ := passes_ok hA hS n n 20 _ (by omega) (by omega) (by omega) G
 exact ⟨permIn_trans _ _ _ _ _ P P2, S⟩
end
section
variable {β : Type}
def ins (lt : β → β → Bool) (x : β) (S : List β) : List β := S.takeWhile (fun y => !lt x y) ++ x :: S.dropWhile (fun y => !lt x y)
def isort (lt : β → β → Bool) (l : List β) : List β := l.foldl (fun S x => ins lt x S) []
theorem isort_snoc (lt : β → β → Bool) (l : List β) (x : β) : isort lt (l ++ [x]) = ins lt x (isort lt l) := by unfold isort; rw [List.foldl_append]; rfl
theorem ins_perm (lt : β → β → Bool) (x : β) (S : List β) : (ins lt x S).Perm (x :: S) := by
 unfold ins
 refine List.perm_middle.trans ?_
 rw [List.takeWhile_append_dropWhile]
theorem ins_map {γ : Type} (f : γ → β) (lt : β → β → Bool) (x : γ) : ∀ (S : List γ), (ins (fun a b => lt (f a) (f b)) x S).map f = ins lt (f x) (S.map f)
 | [] => rfl
 | y :: S => by
  have ih := ins_map f lt x S
  unfold ins at ih ⊢
  rw [List.map_cons, List.takeWhile_cons, List.takeWhile_cons, List.dropWhile_cons, List.dropWhile_cons]
  dsimp only at ih ⊢
  by_cases h : (!lt (f x) (f y)) = true
  ·rw [if_pos h, if_pos h, if_pos h, if_pos h, List.cons_append, List.cons_append, List.map_cons, ih]
  ·rw [if_neg h, if_neg h, if_neg h, if_neg h]
   rfl
theorem isort_map {γ : Type} (f : γ → β) (lt : β → β → Bool) (l : List γ) : (isort (fun a b => lt (f a) (f b)) l).map f = isort lt (l.map f) := by
 suffices h : ∀ (l S : List γ), (l.foldl (fun S x => ins (fun a b => lt (f a) (f b)) x S) S).map f = (l.map f).foldl (fun S x => ins lt x S) (S.map f) from h l []
 intro l
 induction l with
 | nil => intro S; rfl
 | cons x l ih =>
  intro S
  rw [List.foldl_cons, ih, ins_map]
  rfl
def ltI (lt : Nat → Nat → Bool) (x y : Nat) : Bool := lt x y || (!lt y x && decide (x < y))
theorem ltI_agree {lt : Nat → Nat → Bool} (x y : Nat) (h : y < x) : lt x y = ltI lt x y := by
 unfold ltI
 rw [show decide (x < y) = false from decide_eq_false (by omega), Bool.and_false, Bool.or_false]
theorem ltI_total {lt : Nat → Nat → Bool} (x y : Nat) (h1 : ltI lt x y = false) (h2 : ltI lt y x = false) : x = y := by
 unfold ltI at h1 h2
 rcases Nat.lt_trichotomy x y with g | g | g
 ·simp_all
 ·exact g
 ·simp_all
theorem swo_ltI {lt : Nat → Nat → Bool} (h : SWO lt) : SWO (ltI lt) where
 irrefl x := by unfold ltI; rw [h.irrefl]; simp
 trans x y z h1 h2 := by
  unfold ltI at *
  simp only [Bool.or_eq_true, Bool.and_eq_true, Bool.not_eq_true', decide_eq_true_eq] at *
  rcases h1 with h1 | ⟨h1, h1'⟩
  ·rcases h2 with h2 | ⟨h2, h2'⟩
   ·exact .inl (h.trans _ _ _ h1 h2)
   ·left
    cases c : lt x z with
    | true => rfl
    | false => have := h.ntrans _ _ _ c h2; rw [h1] at this; cases this
  ·rcases h2 with h2 | ⟨h2, h2'⟩
   ·left
    cases c : lt x z with
    | true => rfl
    | false => have := h.ntrans _ _ _ h1 c; rw [h2] at this; cases this
   ·exact .inr ⟨h.ntrans _ _ _ h2 h1, by omega⟩
 ntrans x y z h1 h2 := by
  unfold ltI at *
  simp only [Bool.or_eq_false_iff, Bool.and_eq_false_iff, Bool.not_eq_false', decide_eq_false_iff_not] at *
  obtain ⟨h1, h1'⟩ := h1
  obtain ⟨h2, h2'⟩ := h2
  refine ⟨h.ntrans _ _ _ h1 h2, ?_⟩
  by_cases g : x < z
  ·left
   rcases h1' with h1' | h1'
   ·cases c : lt z x with
    | true => rfl
    | false => have := h.ntrans _ _ _ h2 c; rw [h1'] at this; cases this
   ·rcases h2' with h2' | h2'
    ·cases c : lt z x with
     | true => rfl
     | false => have := h.ntrans _ _ _ c h1; rw [h2'] at this; cases this
    ·omega
  ·exact .inr g
theorem isort_sorted {lt : Nat → Nat → Bool} (h : SWO lt) : ∀ n, (isort lt (List.range n)).Perm (List.range n) ∧ (isort lt (List.range n)).Pairwise (fun x y => ltI lt y x = false)
 | 0 => ⟨List.Perm.refl _, List.Pairwise.nil⟩
 | n + 1 => by
  obtain ⟨P, S⟩ := isort_sorted h n
  rw [List.range_succ, isort_snoc]
  refine ⟨(ins_perm lt n _).trans ((P.cons n).trans (List.perm_append_singleton n (List.range n)).symm), ?_⟩
  have hlt : ∀ y ∈ isort lt (List.range n), y < n := fun y hy => List.mem_range.1 (P.mem_iff.1 hy)
  have hw := swo_ltI h
  generalize isort lt (List.range n) = L at *
  clear P
  induction L with
  | nil => exact List.pairwise_singleton _ _
  | cons y L ih =>
   obtain ⟨s1, s2⟩ := List.pairwise_cons.1 S
   have ih := ih s2 (fun z hz => hlt z (List.mem_cons_of_mem _ hz))
   have hy := hlt y List.mem_cons_self
   unfold ins at ih ⊢
   rw [List.takeWhile_cons, List.dropWhile_cons]
   cases c : lt n y with
   | true =>
    simp only [Bool.not_true, Bool.false_eq_true, if_false, List.nil_append]
    have c' : ltI lt n y = true := by rw [← ltI_agree n y hy]; exact c
    refine List.pairwise_cons.2 ⟨fun z hz => ?_, S⟩
    rcases List.mem_cons.1 hz with rfl | hz
    ·exact swo_asymm hw c'
    ·refine swo_asymm hw ?_
     cases c5 : ltI lt n z with
     | true => rfl
     | false => have := hw.ntrans _ _ _ c5 (s1 z hz); rw [c'] at this; cases this
   | false =>
    simp only [Bool.not_false, if_true, List.cons_append]
    refine List.pairwise_cons.2 ⟨fun z hz => ?_, ih⟩
    rcases List.mem_append.1 hz with hz | hz
    ·exact s1 z ((List.takeWhile_sublist _).mem hz)
    ·rcases List.mem_cons.1 hz with rfl | hz
     ·rw [← ltI_agree z y hy]; exact c
     ·exact s1 z ((List.dropWhile_sublist _).mem hz)
theorem stable_isort {lt : Nat → Nat → Bool} (h : SWO lt) (n : Nat) : (stable lt n (Array.range n)).toList = isort lt (List.range n) := by
 have hw := swo_ltI h
 obtain ⟨P, S⟩ := stable_ok (lt := lt) (lt' := ltI lt) (fun x y => ltI_agree x y) hw n (Array.range n) (by simp) (fun p hp => by simp [hp])
 obtain ⟨P2, S2⟩ := isort_sorted h n
 have u := sorted_unique_holds hw (fun x y => ltI_total x y) (Array.range n) (stable lt n (Array.range n)) (by simpa using P) (by simpa using S)
 have hl : (isort lt (List.range n)).length = n := by rw [P2.length_eq]; simp
 have u2 := sorted_unique_holds hw (fun x y => ltI_total x y) (Array.range n) (isort lt (List.range n)).toArray
  (by
   refine ⟨by simp [hl], fun i hi => ?_, ?_⟩
   ·have : n ≤ i := by simpa using hi
    simp [hl, this]
   ·have e : (isort lt (List.range n)).take n = isort lt (List.range n) := List.take_of_length_le (by omega)
    simpa [hl, e] using P2)
  (fun i j _ hij hj => by
   have hj : j < n := by simpa using hj
   have := List.pairwise_iff_getElem.1 S2 i j (by omega) (by omega) hij
   simpa [hl, hj, show i < n by omega] using this)
 rw [u]
 exact u2.symm
theorem range_map (l : List β) (z : β) : (List.range l.length).map (fun i => l.getD i z) = l := by
 apply List.ext_getElem
 ·simp
 ·intro i h1 h2
  simp [List.getD_eq_getElem?_getD, show i < l.length by simpa using h1]
theorem stable_list (lt : β → β → Bool) (z : β) (h : SWO lt) (l : List β) : (stable (fun i j => lt (l.getD i z) (l.getD j z)) l.length (Array.range l.length)).toList.map (fun i => l.getD i z) = isort lt l := by
 rw [stable_isort (lt := fun i j => lt (l.getD i z) (l.getD j z)) ⟨fun x => h.irrefl _, fun x y w => h.trans _ _ _, fun x y w => h.ntrans _ _ _⟩, isort_map (fun i => l.getD i z) lt (List.range l.length), range_map]
end
end Go.Proofs.YtapgfamppnhnmaaStable
