/- Plain lemmas on what the functions of the law FnExactAndAll compute: numbers and lists alone. -/
import Derived.Test.YtapgfamppnhnmaaPFnExactAndAllx0
import Derived.Test.YtapgfamppnhnmaaPFnExactAndAllx1
import Derived.Test.YtapgfamppnhnmaaPFnExactAndAllx2
import Derived.Test.YtapgfamppnhnmaaPFnExactAndAllx3
import Derived.Test.YtapgfamppnhnmaaPFnExactAndAllx4
import Derived.Test.YtapgfamppnhnmaaPFnExactAndAllx5
import Derived.Test.YtapgfamppnhnmaaPFnExactAndAllx6
import Derived.Test.YtapgfamppnhnmaaPFnExactAndAllx7
import Derived.Test.YtapgfamppnhnmaaPFnExactAndAllx8
import Derived.Test.YtapgfamppnhnmaaPFnExactAndAllx9
import Derived.Test.YtapgfamppnhnmaaPFnExactAndAllx10
import Derived.Test.YtapgfamppnhnmaaPFnExactAndAllx11
import Derived.Test.YtapgfamppnhnmaaOpen
import Derived.Test.YtapgfamppnhnmaaZFnExactAndAll
namespace Go.Proofs.Ytapgfamppnhnmaa.PFnExactAndAll
open Go.RowKit Go.Proofs.YtapgfamppnhnmaaW.PrintWords Go.Proofs.YtapgfamppnhnmaaW.PrintLast Go.Proofs.YtapgfamppnhnmaaW.PrintMore Go.Proofs.YtapgfamppnhnmaaOpen Go.Proofs.Ytapgfamppnhnmaa.ZFnExactAndAll
set_option linter.unusedVariables false
set_option linter.unusedSimpArgs false
/-- What is left of the bound behind a text. -/
theorem szValue_is (a b : Int) (s : ByteArray) (l : Int) (h0 : 0 ≤ l) (h1 : l ≤ 1048576) (hs : s.size ≤ 9223372036854775807) : laws_szValue.f a b s l = some (lft l s.size) := by
  unfold laws_szValue.f
  rw [wrap_id (x := l - (s.size : Int)) (by omega) (by omega)]
  by_cases h : l - (s.size : Int) < 0
  · rw [if_pos h, lft_of_gt (by omega)]
  · rw [if_neg h, lft_of_le (by omega)]
/-- Is a value right. -/
def okV (a b : Int) (s : List UInt8) : Bool := if a = 0 then (b == 0 && s.isEmpty) else if a = 1 then s.isEmpty else if a = 2 then (decide (0 ≤ b ∧ b ≤ 1) && s.isEmpty) else if a = 3 then (b == 0 && decide (s.length ≤ 100)) else false
theorem specValueOk_is (a b : Int) (s : ByteArray) : spec_ValueOk.f a b s = some (okV a b s.data.toList) := by
  unfold spec_ValueOk.f okV spec_l01In.f
  have he : (s.toList == ([] : List UInt8)) = s.data.toList.isEmpty := by rw [toList_data]; cases s.data.toList <;> rfl
  rw [he, size_data]
  by_cases h0 : a = 0
  · by_cases hb : b = 0 <;> simp [h0, hb]
  · by_cases h1 : a = 1
    · simp [h1]
    · by_cases h2 : a = 2
      · by_cases hb : 0 ≤ b
        · by_cases hb' : b ≤ 1 <;> simp [h2, hb, hb']
        · simp [h2, hb]
      · by_cases h3 : a = 3
        · by_cases hb : b = 0
          · simp [h3, hb]
            omega
          · simp [h3, hb]
        · simp [h0, h1, h2, h3]
theorem implValueOk_is (a b : Int) (s : ByteArray) : impl_ValueOk.f a b s = some (okV a b s.data.toList) := specValueOk_is a b s
/-! #### lists of expressions -/
def okEN : Nat → S58 → Prop
  | 0, _ => False
  | n + 1, x => x.f2.f2.size ≤ 9223372036854775807 ∧ x.f3.size ≤ 9223372036854775807 ∧ x.f4.length ≤ 9223372036854775807 ∧ ∀ y ∈ x.f4, okEN n y
def wtEN : Nat → S58 → Nat
  | 0, _ => 0
  | n + 1, x => x.f2.f2.size + (x.f3.size + (x.f4.length + (x.f4.map (wtEN n)).sum))
def wtES (n : Nat) (xs : List S58) : Nat := xs.length + (xs.map (wtEN n)).sum
theorem okEN_succ : ∀ (n : Nat) (x : S58), okEN n x → okEN (n + 1) x
  | 0, _, h => h.elim
  | n + 1, x, h => ⟨h.1, h.2.1, h.2.2.1, fun y hy => okEN_succ n y (h.2.2.2 y hy)⟩
theorem okEN_le {n m : Nat} (h : n ≤ m) {x : S58} (hx : okEN n x) : okEN m x := by
  induction h with
  | refl => exact hx
  | step _ ih => exact okEN_succ _ _ ih
theorem okES_ex : ∀ {xs : List S58}, (∀ y ∈ xs, ∃ n, okEN n y) → ∃ n, ∀ y ∈ xs, okEN n y
  | [], _ => ⟨0, fun y hy => by cases hy⟩
  | x :: xs, h => by
    obtain ⟨a, ha⟩ := h x (by simp)
    obtain ⟨b, hb⟩ := okES_ex (xs := xs) fun y hy => h y (by simp [hy])
    refine ⟨max a b, fun y hy => ?_⟩
    rcases List.mem_cons.1 hy with rfl | hy
    · exact okEN_le (by omega) ha
    · exact okEN_le (by omega) (hb y hy)
theorem szExp_mem (E_ : List S58 → Int → Option Int) (wt : Nat) (x : S58) (h1 : x.f2.f2.size ≤ 9223372036854775807) (h2 : x.f3.size ≤ 9223372036854775807) (hE : ∀ l, 0 ≤ l → l ≤ 1048576 → E_ x.f4 l = some (lft l wt)) (l : Int) (h0 : 0 ≤ l) (h5 : l ≤ 1048576) :
    laws_szExp.f E_ x.f0 x.f1 x.f2.f0 x.f2.f1 x.f2.f2 x.f3 x.f4 l = some (lft l (x.f2.f2.size + (x.f3.size + wt))) := by
  show (laws_szValue.f _ _ _ l).bind _ = _
  rw [szValue_is _ _ _ l h0 h5 h1, Option.bind_some]
  by_cases a : (x.f2.f2.size : Int) ≤ l
  · rw [lft_of_le a, if_neg (by omega), wrap_id (x := l - (x.f2.f2.size : Int) - (x.f3.size : Int)) (by omega) (by omega)]
    by_cases b : l - (x.f2.f2.size : Int) - (x.f3.size : Int) < 0
    · rw [if_pos b, lft_of_gt (by omega)]
    · rw [if_neg b, hE _ (by omega) (by omega), Option.bind_some]
      by_cases c : (wt : Int) ≤ l - (x.f2.f2.size : Int) - (x.f3.size : Int)
      · rw [lft_of_le c, if_neg (by omega), lft_of_le (by omega)]
        congr 1
        omega
      · rw [lft_of_gt c, if_pos (by omega), lft_of_gt (by omega)]
  · rw [lft_of_gt a, if_pos (by omega), lft_of_gt (by omega)]
theorem szExpS_list (wt : S58 → Nat) (xs : List S58) (hl : xs.length ≤ 9223372036854775807) (k : Nat) (hk : xs.length < k) (hE : ∀ y ∈ xs, ∀ l, 0 ≤ l → l ≤ 1048576 → laws_szExp.f (laws_szExpS.f k) y.f0 y.f1 y.f2.f0 y.f2.f1 y.f2.f2 y.f3 y.f4 l = some (lft l (wt y))) (l : Int) (h0 : 0 ≤ l) (h1 : l ≤ 1048576) :
    laws_szExpS.f (k + 1) xs l = some (lft l (xs.length + (xs.map wt).sum)) :=
  szk_list z58 (fun k' xs l => if wrap64 (l - (xs.length : Int)) < 0 then some (-1) else laws_szExpS.l0 (laws_szExpS.f k) k' xs (wrap64 (l - (xs.length : Int))) 0) (laws_szExpS.l0 (laws_szExpS.f k)) (fun y l => laws_szExp.f (laws_szExpS.f k) y.f0 y.f1 y.f2.f0 y.f2.f1 y.f2.f2 y.f3 y.f4 l) wt (fun _ _ _ => rfl) (fun _ _ _ _ => rfl) xs hl hE k hk l h0 h1
theorem szExpS_is : ∀ (n : Nat) (xs : List S58), xs.length ≤ 9223372036854775807 → (∀ y ∈ xs, okEN n y) → ∃ K, ∀ k, K ≤ k → ∀ l, 0 ≤ l → l ≤ 1048576 → laws_szExpS.f k xs l = some (lft l (wtES n xs))
  | 0, xs, hl, h => by
    cases xs with
    | cons x xs => exact (h x (by simp)).elim
    | nil =>
      refine ⟨2, fun k hk l h0 h1 => ?_⟩
      obtain ⟨k, rfl⟩ : ∃ m, k = m + 1 := ⟨k - 1, by omega⟩
      exact szExpS_list (wtEN 0) [] hl k (by simp; omega) (fun y hy => by cases hy) l h0 h1
  | n + 1, xs, hl, h => by
    obtain ⟨K, hK⟩ := ev_all (xs := xs) (P := fun k y => ∀ l, 0 ≤ l → l ≤ 1048576 → laws_szExpS.f k y.f4 l = some (lft l (wtES n y.f4))) fun y hy => szExpS_is n y.f4 (h y hy).2.2.1 (h y hy).2.2.2
    refine ⟨max K (xs.length + 1) + 1, fun k hk l h0 h1 => ?_⟩
    obtain ⟨k, rfl⟩ : ∃ m, k = m + 1 := ⟨k - 1, by omega⟩
    exact szExpS_list (wtEN (n + 1)) xs hl k (by omega) (fun y hy l h0 h1 => szExp_mem (laws_szExpS.f k) (wtES n y.f4) y (h y hy).1 (h y hy).2.1 (fun l h0 h1 => hK k (by omega) y hy l h0 h1) l h0 h1) l h0 h1
theorem wtE_kids {n : Nat} {x : S58} {b : Nat} (h : wtEN (n + 1) x ≤ b) : wtES n x.f4 ≤ b := by
  unfold wtEN at h
  unfold wtES
  omega
theorem wtES_mem {n : Nat} {xs : List S58} {y : S58} {b : Nat} (h : wtES n xs ≤ b) (hy : y ∈ xs) : wtEN n y ≤ b := by
  have := sum_le_of_mem0 (wtEN n) hy
  unfold wtES at h
  omega
theorem wtES_len {n : Nat} {xs : List S58} {b : Nat} (h : wtES n xs ≤ b) : xs.length ≤ b := by
  unfold wtES at h
  omega
def toEN : Nat → S58 → S28
  | 0, _ => z28
  | n + 1, x => ⟨x.f0, x.f1, ⟨x.f2.f0, x.f2.f1, x.f2.f2⟩, x.f3, x.f4.map (toEN n)⟩
theorem mkE_eta (y : S28) : (⟨y.f0, y.f1, (⟨y.f2.f0, y.f2.f1, y.f2.f2⟩ : S25), y.f3, y.f4⟩ : S28) = y := by cases y; rfl
theorem toExpS_list (g : S58 → S28) (xs : List S58) (hl : xs.length ≤ 1048576) (k : Nat) (hk : xs.length < k) (hE : ∀ y ∈ xs, laws_toExp.f (laws_toExpS.f k) y.f0 y.f1 y.f2.f0 y.f2.f1 y.f2.f2 y.f3 y.f4 = some ((g y).f0, (g y).f1, (g y).f2.f0, (g y).f2.f1, (g y).f2.f2, (g y).f3, (g y).f4)) :
    laws_toExpS.f (k + 1) xs = some (xs.map g) := by
  have h := mapk_list z58 z28 (fun k' xs => if 0 ≤ (xs.length : Int) then (if ((xs.length : Int) : Int).toNat ≤ 3198579280802 then (laws_toExpS.l0 (laws_toExpS.f k) k' xs (List.replicate ((xs.length : Int) : Int).toNat z28) 0) else (none)) else (none)) (laws_toExpS.l0 (laws_toExpS.f k)) (fun y => laws_toExp.f (laws_toExpS.f k) y.f0 y.f1 y.f2.f0 y.f2.f1 y.f2.f2 y.f3 y.f4) (fun bt => (⟨bt.1, bt.2.1, (⟨bt.2.2.1, bt.2.2.2.1, bt.2.2.2.2.1⟩ : S25), bt.2.2.2.2.2.1, bt.2.2.2.2.2.2⟩ : S28)) (fun y => ((g y).f0, (g y).f1, (g y).f2.f0, (g y).f2.f1, (g y).f2.f2, (g y).f3, (g y).f4)) 3198579280802 (fun _ _ => rfl) (fun _ _ _ _ => rfl) xs (by omega) (by omega) hE k hk
  exact h.trans (congrArg some (List.map_congr_left fun y _ => mkE_eta (g y)))
theorem toExpS_is : ∀ (n : Nat) (xs : List S58), (∀ y ∈ xs, okEN n y) → wtES n xs ≤ 1048576 → ∃ K, ∀ k, K ≤ k → laws_toExpS.f k xs = some (xs.map (toEN n))
  | 0, xs, h, hw => by
    cases xs with
    | cons x xs => exact (h x (by simp)).elim
    | nil =>
      refine ⟨2, fun k hk => ?_⟩
      obtain ⟨k, rfl⟩ : ∃ m, k = m + 1 := ⟨k - 1, by omega⟩
      exact toExpS_list (toEN 0) [] (by simp) k (by simp; omega) (fun y hy => by cases hy)
  | n + 1, xs, h, hw => by
    obtain ⟨K, hK⟩ := ev_all (xs := xs) (P := fun k y => laws_toExpS.f k y.f4 = some (y.f4.map (toEN n))) fun y hy => toExpS_is n y.f4 (h y hy).2.2.2 (wtE_kids (wtES_mem hw hy))
    have hl := wtES_len hw
    refine ⟨max K (xs.length + 1) + 1, fun k hk => ?_⟩
    obtain ⟨k, rfl⟩ : ∃ m, k = m + 1 := ⟨k - 1, by omega⟩
    refine toExpS_list (toEN (n + 1)) xs hl k (by omega) (fun y hy => ?_)
    show ((laws_toExpS.f k y.f4).bind _) = _
    rw [hK k (by omega) y hy, Option.bind_some]
    have e : toEN (n + 1) y = ⟨y.f0, y.f1, ⟨y.f2.f0, y.f2.f1, y.f2.f2⟩, y.f3, y.f4.map (toEN n)⟩ := by simp only [toEN]
    rw [e]
/-- All lists of kids are short, so far down. -/
def shortI : Nat → S28 → Prop
  | 0, _ => True
  | m + 1, y => y.f4.length ≤ 1048576 ∧ ∀ z ∈ y.f4, shortI m z
/-- So deep, and all lists of kids are short. -/
def finI : Nat → S28 → Prop
  | 0, _ => False
  | n + 1, y => y.f4.length ≤ 1048576 ∧ ∀ z ∈ y.f4, finI n z
theorem finI_short : ∀ (n m : Nat) (y : S28), finI n y → shortI m y
  | 0, _, _, h => h.elim
  | _ + 1, 0, _, _ => trivial
  | n + 1, m + 1, y, h => ⟨h.1, fun z hz => finI_short n m z (h.2 z hz)⟩
theorem finI_succ : ∀ (n : Nat) (y : S28), finI n y → finI (n + 1) y
  | 0, _, h => h.elim
  | n + 1, y, h => ⟨h.1, fun z hz => finI_succ n z (h.2 z hz)⟩
theorem finI_le {n m : Nat} (h : n ≤ m) {x : S28} (hx : finI n x) : finI m x := by
  induction h with
  | refl => exact hx
  | step _ ih => exact finI_succ _ _ ih
def ndN : Nat → S28 → Nat
  | 0, _ => 0
  | n + 1, y => 1 + (y.f4.map (ndN n)).sum
def ndS (n : Nat) (ys : List S28) : Nat := (ys.map (ndN n)).sum
theorem toE_fin : ∀ (n : Nat) (x : S58), okEN n x → wtEN n x ≤ 1048576 → finI n (toEN n x)
  | 0, _, h, _ => h.elim
  | n + 1, x, h, hw => by
    refine ⟨?_, fun z hz => ?_⟩
    · show (x.f4.map (toEN n)).length ≤ 1048576
      rw [List.length_map]
      exact wtES_len (wtE_kids hw)
    · obtain ⟨u, hu, rfl⟩ := List.mem_map.1 hz
      exact toE_fin n u (h.2.2.2 u hu) (wtES_mem (wtE_kids hw) hu)
theorem sum_map_le {α : Type} (f g : α → Nat) : ∀ {l : List α}, (∀ x ∈ l, f x ≤ g x) → (l.map f).sum ≤ (l.map g).sum
  | [], _ => Nat.le_refl _
  | x :: l, h => by
    have a := h x (by simp)
    have b := sum_map_le f g (l := l) fun y hy => h y (by simp [hy])
    simp only [List.map_cons, List.sum_cons]
    omega
theorem sum_map_one {α : Type} (g : α → Nat) : ∀ (l : List α), (l.map fun x => 1 + g x).sum = l.length + (l.map g).sum
  | [] => rfl
  | x :: l => by
    have b := sum_map_one g l
    simp only [List.map_cons, List.sum_cons, List.length_cons]
    omega
theorem toE_nd : ∀ (n : Nat) (x : S58), ndN n (toEN n x) ≤ 1 + wtEN n x
  | 0, _ => by unfold ndN; omega
  | n + 1, x => by
    have h := sum_map_le (fun y => ndN n (toEN n y)) (fun y => 1 + wtEN n y) (l := x.f4) fun y _ => toE_nd n y
    rw [sum_map_one] at h
    show 1 + ((x.f4.map (toEN n)).map (ndN n)).sum ≤ 1 + (x.f2.f2.size + (x.f3.size + (x.f4.length + (x.f4.map (wtEN n)).sum)))
    rw [List.map_map]
    have e : (x.f4.map (ndN n ∘ toEN n)).sum = (x.f4.map fun y => ndN n (toEN n y)).sum := rfl
    rw [e]
    omega
theorem toES_nd (n : Nat) (xs : List S58) : ndS n (xs.map (toEN n)) ≤ wtES n xs := by
  have h := sum_map_le (fun y => ndN n (toEN n y)) (fun y => 1 + wtEN n y) (l := xs) fun y _ => toE_nd n y
  rw [sum_map_one] at h
  unfold ndS wtES
  rw [List.map_map]
  have e : (xs.map (ndN n ∘ toEN n)).sum = (xs.map fun y => ndN n (toEN n y)).sum := rfl
  rw [e]
  exact h
theorem eqExp_refl : ∀ (n : Nat) (y : S28), finI n y → ∃ K, ∀ k, K ≤ k → laws_eqExp.f k y.f0 y.f1 y.f2.f0 y.f2.f1 y.f2.f2 y.f3 y.f4 y.f0 y.f1 y.f2.f0 y.f2.f1 y.f2.f2 y.f3 y.f4 = some true
  | 0, _, h => h.elim
  | n + 1, y, h => by
    obtain ⟨K, hK⟩ := ev_all (xs := y.f4) (P := fun k y => laws_eqExp.f k y.f0 y.f1 y.f2.f0 y.f2.f1 y.f2.f2 y.f3 y.f4 y.f0 y.f1 y.f2.f0 y.f2.f1 y.f2.f2 y.f3 y.f4 = some true) fun z hz => eqExp_refl n z (h.2 z hz)
    have hl := h.1
    refine ⟨max K (y.f4.length + 1) + 1, fun k hk => ?_⟩
    obtain ⟨k, rfl⟩ : ∃ m, k = m + 1 := ⟨k - 1, by omega⟩
    have e := eqk_list z28 (laws_eqExpS.f (laws_eqExp.f k)) (laws_eqExpS.l0 (laws_eqExp.f k)) (fun y z => laws_eqExp.f k y.f0 y.f1 y.f2.f0 y.f2.f1 y.f2.f2 y.f3 y.f4 z.f0 z.f1 z.f2.f0 z.f2.f1 z.f2.f2 z.f3 z.f4) (fun _ _ _ => rfl) (fun _ _ _ _ => rfl) y.f4 (by omega) (fun z hz => hK k (by omega) z hz) k (by omega)
    simp [laws_eqExp.f, laws_eqValue.f, e]
theorem eqExpS_refl (n : Nat) (ys : List S28) (hl : ys.length ≤ 1048576) (h : ∀ y ∈ ys, finI n y) : Ev (fun k => laws_eqExpS.f (laws_eqExp.f k) k ys ys) true := by
  obtain ⟨K, hK⟩ := ev_all (xs := ys) (P := fun k y => laws_eqExp.f k y.f0 y.f1 y.f2.f0 y.f2.f1 y.f2.f2 y.f3 y.f4 y.f0 y.f1 y.f2.f0 y.f2.f1 y.f2.f2 y.f3 y.f4 = some true) fun z hz => eqExp_refl n z (h z hz)
  refine ⟨max K (ys.length + 1), fun k hk => ?_⟩
  exact eqk_list z28 (laws_eqExpS.f (laws_eqExp.f k)) (laws_eqExpS.l0 (laws_eqExp.f k)) (fun y z => laws_eqExp.f k y.f0 y.f1 y.f2.f0 y.f2.f1 y.f2.f2 y.f3 y.f4 z.f0 z.f1 z.f2.f0 z.f2.f1 z.f2.f2 z.f3 z.f4) (fun _ _ _ => rfl) (fun _ _ _ _ => rfl) ys (by omega) (fun z hz => hK k (by omega) z hz) k (by omega)
theorem l03Has_is (xs : List ByteArray) (s : ByteArray) (hn : xs.length ≤ 9223372036854775807) : Ev (fun k => spec_l03Has.f k xs s) (xs.any fun x => x.toList == s.toList) := by
  have h : ∀ (n i : Nat), xs.length - i = n → i ≤ xs.length → Ev (fun k => spec_l03Has.l0 k xs s (i : Int)) ((xs.drop i).any fun x => x.toList == s.toList) := by
    intro n
    induction n with
    | zero =>
      intro i h1 h2
      refine Ev.step (fun k => rfl) (ev_if_neg (by omega) (ev_conv (ev_some fun _ => rfl) ?_))
      rw [show i = xs.length by omega, List.drop_length]
      rfl
    | succ n ih =>
      intro i h1 h2
      have hi : i < xs.length := by omega
      refine Ev.step (fun k => rfl) (ev_if_pos (by omega) (ev_if_pos (by omega) ?_))
      rw [drop_cons_getD ByteArray.empty hi, List.any_cons]
      show Ev (fun k => if (xs.getD (i : Int).toNat ByteArray.empty).toList = s.toList then some true else spec_l03Has.l0 k xs s (wrap64 ((i : Int) + 1))) _
      rw [Int.toNat_natCast]
      by_cases e : (xs.getD i ByteArray.empty).toList = s.toList
      · exact ev_if_pos e (ev_conv (ev_some fun _ => rfl) (by rw [e]; simp))
      · refine ev_if_neg e ?_
        rw [wrap_succ hi hn]
        exact ev_conv (ih (i + 1) (by omega) (by omega)) (by rw [show ((xs.getD i ByteArray.empty).toList == s.toList) = false from beq_eq_false_iff_ne.mpr e, Bool.false_or])
  exact ev_conv (h xs.length 0 (by omega) (by omega)) (by rw [List.drop_zero])
theorem containsS_is (xs : List ByteArray) (s : ByteArray) (hn : xs.length ≤ 9223372036854775807) : Ev (fun k => slices_Contains_string_string.f k xs s) (xs.any fun x => x.toList == s.toList) := by
  have h : ∀ (n i : Nat), xs.length - i = n → i ≤ xs.length → ∃ j, Ev (fun k => slices_Index_string_string.l0 k xs s (xs.length : Int) (i : Int)) j ∧ decide (j ≥ 0) = (xs.drop i).any fun x => x.toList == s.toList := by
    intro n
    induction n with
    | zero =>
      intro i h1 h2
      refine ⟨-1, Ev.step (fun k => rfl) (ev_if_neg (by omega) (ev_some fun _ => rfl)), ?_⟩
      rw [show i = xs.length by omega, List.drop_length]
      rfl
    | succ n ih =>
      intro i h1 h2
      have hi : i < xs.length := by omega
      by_cases e : s.toList = (xs.getD i ByteArray.empty).toList
      · refine ⟨i, Ev.step (fun k => rfl) (ev_if_pos (by omega) (ev_if_pos (by omega) (ev_if_pos (by omega) ?_))), ?_⟩
        · show Ev (fun k => if s.toList = (xs.getD (i : Int).toNat ByteArray.empty).toList then some (i : Int) else slices_Index_string_string.l0 k xs s (xs.length : Int) (wrap64 ((i : Int) + 1))) _
          rw [Int.toNat_natCast]
          exact ev_if_pos e (ev_some fun _ => rfl)
        · rw [drop_cons_getD ByteArray.empty hi, List.any_cons]
          rw [← e]
          simp
      · obtain ⟨j, hj, hd⟩ := ih (i + 1) (by omega) (by omega)
        refine ⟨j, Ev.step (fun k => rfl) (ev_if_pos (by omega) (ev_if_pos (by omega) (ev_if_pos (by omega) ?_))), ?_⟩
        · show Ev (fun k => if s.toList = (xs.getD (i : Int).toNat ByteArray.empty).toList then some (i : Int) else slices_Index_string_string.l0 k xs s (xs.length : Int) (wrap64 ((i : Int) + 1))) _
          rw [Int.toNat_natCast, wrap_succ hi hn]
          exact ev_if_neg e hj
        · rw [hd, drop_cons_getD ByteArray.empty hi, List.any_cons]
          rw [show ((xs.getD i ByteArray.empty).toList == s.toList) = false from beq_eq_false_iff_ne.mpr fun h => e h.symm, Bool.false_or]
  obtain ⟨j, hj, hd⟩ := h xs.length 0 (by omega) (by omega)
  rw [List.drop_zero] at hd
  exact Ev.congr (fun k => rfl) (Ev.bind hj (f := fun k t => some (decide (t ≥ 0))) (ev_conv (ev_some fun _ => rfl) hd))
/-- The texts of the operations. -/
def opsL : List ByteArray := [(⟨#[43]⟩ : ByteArray), (⟨#[45]⟩ : ByteArray), (⟨#[42]⟩ : ByteArray), (⟨#[47]⟩ : ByteArray), (⟨#[61]⟩ : ByteArray), (⟨#[60]⟩ : ByteArray), (⟨#[126]⟩ : ByteArray), (⟨#[97, 110, 100]⟩ : ByteArray), (⟨#[111, 114]⟩ : ByteArray)]
def isOpB (op : ByteArray) : Bool := opsL.any fun x => x.toList == op.toList
/-- An expression's own part is right, and so many kids are asked. -/
def locE (a n v0 v1 : Int) (v2 op : ByteArray) (c : Nat) : Bool :=
  if a = 0 then decide (0 ≤ n ∧ n ≤ 11) && nullB v0 v1 v2 && (op.toList == ([] : List UInt8)) && c == 0
  else if a = 1 then okV v0 v1 v2.data.toList && (n == 0) && (op.toList == ([] : List UInt8)) && c == 0
  else if a = 2 then isOpB op && (n == 0) && nullB v0 v1 v2 && c == 2
  else if a = 3 ∨ a = 4 then (n == 0) && nullB v0 v1 v2 && (op.toList == ([] : List UInt8)) && c == 1
  else false
/-- An expression is right, and nothing stands more than m - 1 below it. -/
def okE : Nat → S28 → Bool
  | 0, _ => false
  | m + 1, y => locE y.f0 y.f1 y.f2.f0 y.f2.f1 y.f2.f2 y.f3 y.f4.length && y.f4.all (okE m)
theorem isColumn_is (n : Int) : impl_isColumn.f n = some (decide (0 ≤ n ∧ n ≤ 11)) := by
  unfold impl_isColumn.f impl_within.f
  by_cases h : 0 ≤ n <;> simp [h]
theorem isOp_is (op : ByteArray) : Ev (fun k => impl_isOp.f k op) (isOpB op) :=
  Ev.congr (fun k => rfl) (Ev.bind (containsS_is opsL op (by decide)) (f := fun k t => some t) (ev_some fun _ => rfl))
theorem allO_evs {α : Type} {f : Nat → α → Option Bool} {g : α → Bool} : ∀ {xs : List α}, (∀ x ∈ xs, Ev (fun k => f k x) (g x)) → Ev (fun k => allO (f k) xs) (xs.all g)
  | [], _ => ev_some fun _ => rfl
  | x :: xs, h => by
    refine Ev.congr (fun k => rfl) (Ev.bind (h x (by simp)) (f := fun k t => if t = true then allO (f k) xs else some false) ?_)
    cases hx : g x with
    | true => exact ev_if_pos rfl (ev_conv (allO_evs fun y hy => h y (by simp [hy])) (by simp [hx]))
    | false => exact ev_if_neg (by simp) (ev_conv (ev_some fun _ => rfl) (by simp [hx]))
theorem loc_end (b : Bool) (c : Nat) (kn : Int) (m : Nat) (h : kn = m) : (if b = true then decide ((c : Int) = kn) else false) = (b && c == m) := by
  subst h
  cases b with
  | false => rfl
  | true =>
    rw [if_pos rfl, Bool.true_and, Bool.eq_iff_iff, decide_eq_true_iff, beq_iff_eq]
    omega
theorem isExpS_is (a n v0 v1 : Int) (v2 op : ByteArray) : ∃ kn rt, Ev (fun k => isExpS k a n v0 v1 v2 op) (kn, rt) ∧ ∀ c : Nat, (if rt = true then decide ((c : Int) = kn) else false) = locE a n v0 v1 v2 op c := by
  unfold isExpS locE
  by_cases a0 : a = 0
  · exact ⟨0, _, ev_if_pos a0 (ev_bind0 (isColumn_is n) (ev_some fun _ => rfl)), fun c => by rw [if_pos a0]; exact loc_end _ c 0 0 rfl⟩
  by_cases a1 : a = 1
  · exact ⟨0, _, ev_if_neg a0 (ev_if_pos a1 (ev_bind0 (implValueOk_is v0 v1 v2) (ev_some fun _ => rfl))), fun c => by rw [if_neg a0, if_pos a1]; exact loc_end _ c 0 0 rfl⟩
  by_cases a2 : a = 2
  · exact ⟨2, _, ev_if_neg a0 (ev_if_neg a1 (ev_if_pos a2 (Ev.bind (isOp_is op) (ev_some fun _ => rfl)))), fun c => by rw [if_neg a0, if_neg a1, if_pos a2]; exact loc_end _ c 2 2 rfl⟩
  by_cases a3 : a = 3 ∨ a = 4
  · exact ⟨1, _, ev_if_neg a0 (ev_if_neg a1 (ev_if_neg a2 (ev_if_pos a3 (ev_some fun _ => rfl)))), fun c => by rw [if_neg a0, if_neg a1, if_neg a2, if_pos a3]; exact loc_end _ c 1 1 rfl⟩
  · exact ⟨0, false, ev_if_neg a0 (ev_if_neg a1 (ev_if_neg a2 (ev_if_neg a3 (ev_some fun _ => rfl)))), fun c => by simp [a0, a1, a2, a3]⟩
theorem impl_isExp_is : ∀ (m : Nat) (y : S28) (d : Int), m ≤ 13 → d = 13 - m → shortI m y → Ev (fun k => impl_isExp.f k y.f0 y.f1 y.f2.f0 y.f2.f1 y.f2.f2 y.f3 y.f4 d) (okE m y) := by
  intro m
  induction m with
  | zero =>
    intro y d hm hd _
    obtain ⟨kn, rt, hs, _⟩ := isExpS_is y.f0 y.f1 y.f2.f0 y.f2.f1 y.f2.f2 y.f3
    refine Ev.step (fun k => rfl) (Ev.bind hs ?_)
    cases rt with
    | false => exact ev_if_neg (by simp) (ev_some fun _ => rfl)
    | true => exact ev_if_pos rfl (ev_if_neg (by omega) (ev_some fun _ => rfl))
  | succ m ih =>
    intro y d hm hd hy
    obtain ⟨kn, rt, hs, hl⟩ := isExpS_is y.f0 y.f1 y.f2.f0 y.f2.f1 y.f2.f2 y.f3
    have hl := hl y.f4.length
    refine Ev.step (fun k => rfl) (Ev.bind hs ?_)
    cases rt with
    | false => exact ev_if_neg (by simp) (ev_conv (ev_some fun _ => rfl) (by simp only [okE]; rw [← hl]; simp))
    | true =>
      rw [if_pos rfl] at hl
      refine ev_if_pos rfl (ev_if_pos (by omega) ?_)
      by_cases e : (y.f4.length : Int) = kn
      · refine ev_if_pos e (ev_conv (allO_evs (g := okE m) fun x hx => ?_) (by simp only [okE]; rw [← hl]; simp [e]))
        rw [wrap_id (x := d + 1) (by omega) (by omega)]
        exact ih x (d + 1) (by omega) (by omega) (hy.2 x hx)
      · exact ev_if_neg e (ev_conv (ev_some fun _ => rfl) (by simp only [okE]; rw [← hl]; simp [e]))
theorem l03In_is (a b c : Int) : spec_l01In.f a b c = some (decide (b ≤ a ∧ a ≤ c)) := by
  unfold spec_l01In.f
  by_cases h : b ≤ a <;> simp [h]
theorem l03j_is (a n v0 v1 : Int) (v2 op : ByteArray) (l : List S28) (hl : l.length ≤ 1048576) : Ev (fun k => spec_l03Right.j1 k (if n = 0 then nullB v0 v1 v2 else false) a n v0 v1 v2 op l) (locE a n v0 v1 v2 op l.length) := by
  have hc0 : ((l.length : Int) == 0) = (l.length == 0) := by rw [Bool.eq_iff_iff, beq_iff_eq, beq_iff_eq]; omega
  have hc1 : ((l.length : Int) == 1) = (l.length == 1) := by rw [Bool.eq_iff_iff, beq_iff_eq, beq_iff_eq]; omega
  unfold locE
  by_cases a0 : a = 0
  · rw [if_pos a0]
    refine Ev.step (fun k => rfl) (ev_if_pos a0 (ev_bind0 (l03In_is n 0 11) ?_))
    cases decide (0 ≤ n ∧ n ≤ 11) with
    | false => exact ev_if_neg (by simp) (ev_conv (ev_some fun _ => rfl) (by simp))
    | true =>
      refine ev_if_pos rfl ?_
      cases hz : nullB v0 v1 v2 with
      | false => exact ev_if_neg (by have := hz; unfold nullB at this; rw [this]; simp) (ev_conv (ev_some fun _ => rfl) (by simp))
      | true =>
        refine ev_if_pos hz ?_
        by_cases e : op.toList = ([] : List UInt8)
        · exact ev_if_pos e (ev_conv (ev_some fun _ => rfl) (by rw [hc0]; simp [e]))
        · exact ev_if_neg e (ev_conv (ev_some fun _ => rfl) (by simp [e]))
  rw [if_neg a0]
  by_cases a1 : a = 1
  · rw [if_pos a1]
    refine Ev.step (fun k => rfl) (ev_if_neg a0 (ev_if_pos a1 (ev_bind0 (specValueOk_is v0 v1 v2) ?_)))
    cases okV v0 v1 v2.data.toList with
    | false => exact ev_if_neg (by simp) (ev_conv (ev_some fun _ => rfl) (by simp))
    | true =>
      refine ev_if_pos rfl ?_
      by_cases e0 : n = 0
      · refine ev_if_pos e0 ?_
        by_cases e : op.toList = ([] : List UInt8)
        · exact ev_if_pos e (ev_conv (ev_some fun _ => rfl) (by rw [hc0]; simp [e, e0]))
        · exact ev_if_neg e (ev_conv (ev_some fun _ => rfl) (by simp [e]))
      · exact ev_if_neg e0 (ev_conv (ev_some fun _ => rfl) (by simp [e0]))
  rw [if_neg a1]
  have hp : (if n = 0 then nullB v0 v1 v2 else false) = ((n == 0) && nullB v0 v1 v2) := by by_cases e : n = 0 <;> simp [e]
  rw [hp]
  by_cases a2 : a = 2
  · rw [if_pos a2]
    refine Ev.step (fun k => rfl) (ev_if_neg a0 (ev_if_neg a1 (ev_if_pos a2 ?_)))
    cases hq : ((n == 0) && nullB v0 v1 v2) with
    | false => exact ev_if_neg (by simp) (ev_conv (ev_some fun _ => rfl) (by rw [Bool.and_assoc (isOpB op), hq]; simp))
    | true =>
      refine ev_if_pos rfl ?_
      by_cases e : (l.length : Int) = 2
      · refine ev_if_pos e (ev_conv (Ev.bind (l03Has_is opsL op (by decide)) (f := fun k t => some t) (ev_some fun _ => rfl)) ?_)
        rw [Bool.and_assoc (isOpB op), hq, show l.length = 2 by omega]
        simp [isOpB]
      · exact ev_if_neg e (ev_conv (ev_some fun _ => rfl) (by rw [show (l.length == 2) = false from beq_eq_false_iff_ne.mpr (by omega)]; simp))
  rw [if_neg a2]
  by_cases a3 : a = 3
  · rw [if_pos (Or.inl a3)]
    refine Ev.step (fun k => rfl) (ev_if_neg a0 (ev_if_neg a1 (ev_if_neg a2 (ev_if_pos a3 ?_))))
    cases hq : ((n == 0) && nullB v0 v1 v2) with
    | false => exact ev_if_neg (by simp) (ev_conv (ev_some fun _ => rfl) (by simp))
    | true =>
      refine ev_if_pos rfl ?_
      by_cases e : op.toList = ([] : List UInt8)
      · exact ev_if_pos e (ev_conv (ev_some fun _ => rfl) (by rw [hc1]; simp [e]))
      · exact ev_if_neg e (ev_conv (ev_some fun _ => rfl) (by simp [e]))
  by_cases a4 : a = 4
  · rw [if_pos (Or.inr a4)]
    refine Ev.step (fun k => rfl) (ev_if_neg a0 (ev_if_neg a1 (ev_if_neg a2 (ev_if_neg a3 (ev_if_pos a4 ?_)))))
    cases hq : ((n == 0) && nullB v0 v1 v2) with
    | false => exact ev_if_neg (by simp) (ev_conv (ev_some fun _ => rfl) (by simp))
    | true =>
      refine ev_if_pos rfl ?_
      by_cases e : op.toList = ([] : List UInt8)
      · exact ev_if_pos e (ev_conv (ev_some fun _ => rfl) (by rw [hc1]; simp [e]))
      · exact ev_if_neg e (ev_conv (ev_some fun _ => rfl) (by simp [e]))
  · rw [if_neg (by omega)]
    exact Ev.step (fun k => rfl) (ev_if_neg a0 (ev_if_neg a1 (ev_if_neg a2 (ev_if_neg a3 (ev_if_neg a4 (ev_some fun _ => rfl))))))
theorem spec_l03Right_is : ∀ (m : Nat) (y : S28) (d : Int), m ≤ 1000 → d = (m : Int) - 1 → shortI m y → Ev (fun k => spec_l03Right.f k y.f0 y.f1 y.f2.f0 y.f2.f1 y.f2.f2 y.f3 y.f4 d) (okE m y) := by
  intro m
  induction m with
  | zero =>
    intro y d hm hd _
    exact Ev.step (fun k => rfl) (ev_if_pos (by omega) (ev_some fun _ => rfl))
  | succ m ih =>
    intro y d hm hd hy
    obtain ⟨hl, hk⟩ := hy
    refine Ev.step (fun k => rfl) (ev_if_neg (by omega) ?_)
    have fin : ∀ r : Bool, (r = true ↔ locE y.f0 y.f1 y.f2.f0 y.f2.f1 y.f2.f2 y.f3 y.f4.length = true) → Ev (fun k => spec_l03Right.l0 k d (y.f4.length : Int) y.f0 y.f1 y.f2.f0 y.f2.f1 y.f2.f2 y.f3 y.f4) r := by
      intro r hr
      have e : r = locE y.f0 y.f1 y.f2.f0 y.f2.f1 y.f2.f2 y.f3 y.f4.length := by rw [Bool.eq_iff_iff]; exact hr
      rw [e]
      refine Ev.step (fun k => rfl) (ev_if_neg (by omega) ?_)
      have j := l03j_is y.f0 y.f1 y.f2.f0 y.f2.f1 y.f2.f2 y.f3 y.f4 hl
      by_cases e0 : y.f1 = 0
      · rw [if_pos e0] at j
        exact ev_if_pos e0 j
      · rw [if_neg e0] at j
        exact ev_if_neg e0 j
    refine all_loop y.f4.length (fun k i => spec_l03Right.l0 k d i y.f0 y.f1 y.f2.f0 y.f2.f1 y.f2.f2 y.f3 y.f4) (fun j => okE m (y.f4.getD j z28) = true) (locE y.f0 y.f1 y.f2.f0 y.f2.f1 y.f2.f2 y.f3 y.f4.length = true) fin ?_ (okE (m + 1) y) ?_
    · intro i hi r hg hb
      refine Ev.step (fun k => rfl) (ev_if_pos (by omega) (ev_if_pos (by omega) ?_))
      have e := ih (y.f4.getD i z28) (wrap64 (d - 1)) (by omega) (by rw [wrap_id (by omega) (by omega)]; omega) (hk _ (getD_mem _ hi))
      refine Ev.bind (a := okE m (y.f4.getD i z28)) e ?_
      cases ho : okE m (y.f4.getD i z28) with
      | true =>
        refine ev_if_pos rfl ?_
        rw [wrap_succ hi (by omega)]
        exact hg ho
      | false => exact ev_if_neg (by simp) (ev_conv (ev_some fun _ => rfl) (hb fun h => by rw [ho] at h; cases h).symm)
    · rw [forall_getD z28 (p := fun x => okE m x = true)]
      simp only [okE, Bool.and_eq_true, List.all_eq_true]
      exact And.comm
theorem impl_expOk_is (y : S28) (h : shortI 13 y) : Ev (fun k => impl_ExpOk.f k y.f0 y.f1 y.f2.f0 y.f2.f1 y.f2.f2 y.f3 y.f4) (okE 13 y) :=
  Ev.congr (fun k => rfl) (Ev.bind (impl_isExp_is 13 y 0 (by omega) (by omega) h) (f := fun k t => some t) (ev_some fun _ => rfl))
theorem spec_expOk_is (y : S28) (h : shortI 13 y) : Ev (fun k => spec_ExpOk.f k y.f0 y.f1 y.f2.f0 y.f2.f1 y.f2.f2 y.f3 y.f4) (okE 13 y) :=
  Ev.congr (fun k => rfl) (Ev.bind (spec_l03Right_is 13 y 12 (by omega) (by omega) h) (f := fun k t => some t) (ev_some fun _ => rfl))
/-! #### copies of expressions -/
def tupE (y : S28) : Int × Int × Int × Int × ByteArray × ByteArray × List S28 := (y.f0, y.f1, y.f2.f0, y.f2.f1, y.f2.f2, y.f3, y.f4)
def untE (bt : Int × Int × Int × Int × ByteArray × ByteArray × List S28) : S28 := ⟨bt.1, bt.2.1, ⟨bt.2.2.1, bt.2.2.2.1, bt.2.2.2.2.1⟩, bt.2.2.2.2.2.1, bt.2.2.2.2.2.2⟩
theorem unt_tup (y : S28) : untE (tupE y) = y := mkE_eta y
theorem app_loop (g : S28 → S28) {γ : Type} (L : Nat → Int → List S28 → Option γ) (E : Nat → S28 → Option (Int × Int × Int × Int × ByteArray × ByteArray × List S28)) (xs : List S28) (mk : List S28 → γ)
    (hL : ∀ k i acc, L (k + 1) i acc = if i < (xs.length : Int) then (if 0 ≤ i then ((E k (xs.getD i.toNat z28)).bind fun bt => if acc.length < 1599289640401 then L k (wrap64 (i + 1)) (acc ++ [untE bt]) else none) else none) else some (mk acc))
    (hn : xs.length ≤ 1048576) (hE : ∀ x ∈ xs, Ev (fun k => E k x) (tupE (g x))) : ∀ (m i : Nat) (acc : List S28), xs.length - i = m → i ≤ xs.length → acc.length = i → Ev (fun k => L k (i : Int) acc) (mk (acc ++ (xs.drop i).map g)) := by
  intro m
  induction m with
  | zero =>
    intro i acc h1 h2 h3
    have e : i = xs.length := by omega
    refine Ev.step (fun k => hL k i acc) (ev_if_neg (by omega) (ev_conv (ev_some fun _ => rfl) ?_))
    rw [e, List.drop_length, List.map_nil, List.append_nil]
  | succ m ih =>
    intro i acc h1 h2 h3
    have hi : i < xs.length := by omega
    refine Ev.step (fun k => hL k i acc) (ev_if_pos (by omega) (ev_if_pos (by omega) ?_))
    rw [Int.toNat_natCast]
    refine Ev.bind (hE _ (getD_mem z28 hi)) (ev_if_pos (by omega) ?_)
    rw [wrap_succ hi (by omega), unt_tup]
    refine ev_conv (ih (i + 1) _ (by omega) (by omega) (by simp; omega)) ?_
    rw [drop_cons_getD z28 hi, List.map_cons, List.append_assoc]
    rfl
theorem copy_is : ∀ (n : Nat) (y : S28), finI n y → Ev (fun k => spec_l03Copy.f k y.f0 y.f1 y.f2.f0 y.f2.f1 y.f2.f2 y.f3 y.f4) (tupE y)
  | 0, _, h => h.elim
  | n + 1, y, h => by
    refine Ev.step (fun k => rfl) (ev_conv (app_loop id (fun k i acc => spec_l03Copy.l0 k i y.f0 y.f1 y.f2.f0 y.f2.f1 y.f2.f2 y.f3 y.f4 y.f0 y.f1 y.f2.f0 y.f2.f1 y.f2.f2 y.f3 acc) (fun k x => spec_l03Copy.f k x.f0 x.f1 x.f2.f0 x.f2.f1 x.f2.f2 x.f3 x.f4) y.f4 (fun l => (y.f0, y.f1, y.f2.f0, y.f2.f1, y.f2.f2, y.f3, l)) (fun k i acc => rfl) h.1 (fun z hz => copy_is n z (h.2 z hz)) _ 0 [] rfl (Nat.zero_le _) rfl) ?_)
    simp [tupE]
/-- What lies deeper than p below is left out. -/
def cutE : Nat → S28 → S28
  | 0, y => ⟨y.f0, y.f1, y.f2, y.f3, []⟩
  | p + 1, y => ⟨y.f0, y.f1, y.f2, y.f3, y.f4.map (cutE p)⟩
theorem own_is : ∀ (n p : Nat) (y : S28) (d : Int), finI n y → d = 40 - (p : Int) → p ≤ 40 → Ev (fun k => impl_ownExpAt.f k y.f0 y.f1 y.f2.f0 y.f2.f1 y.f2.f2 y.f3 y.f4 d) (tupE (cutE p y))
  | 0, _, _, _, h, _, _ => h.elim
  | n + 1, 0, y, d, h, hd, hp => Ev.step (fun k => rfl) (ev_if_neg (by omega) (ev_some fun _ => rfl))
  | n + 1, p + 1, y, d, h, hd, hp => by
    refine Ev.step (fun k => rfl) (ev_if_pos (by omega) (ev_conv (app_loop (cutE p) (fun k i acc => impl_ownExpAt.l0 k d y.f4 (y.f4.length : Int) i y.f0 y.f1 y.f2.f0 y.f2.f1 y.f2.f2 y.f3 acc) (fun k x => impl_ownExpAt.f k x.f0 x.f1 x.f2.f0 x.f2.f1 x.f2.f2 x.f3 x.f4 (wrap64 (d + 1))) y.f4 (fun l => (y.f0, y.f1, y.f2.f0, y.f2.f1, y.f2.f2, y.f3, l)) (fun k i acc => ?_) h.1 (fun z hz => ?_) _ 0 [] rfl (Nat.zero_le _) rfl) ?_))
    · show (if i < (y.f4.length : Int) then (if 0 ≤ i then (if i < (y.f4.length : Int) then _ else none) else none) else _) = _
      by_cases hi : i < (y.f4.length : Int)
      · rw [if_pos hi, if_pos hi, if_pos hi]
        rfl
      · rw [if_neg hi, if_neg hi]
    · rw [wrap_id (x := d + 1) (by omega) (by omega)]
      exact own_is n p z (d + 1) (h.2 z hz) (by omega) (by omega)
    · rfl
theorem ownExp_is (n : Nat) (y : S28) (h : finI n y) : Ev (fun k => impl_ownExp.f k y.f0 y.f1 y.f2.f0 y.f2.f1 y.f2.f2 y.f3 y.f4) (tupE (cutE 40 y)) :=
  Ev.congr (f := fun k => (impl_ownExpAt.f k y.f0 y.f1 y.f2.f0 y.f2.f1 y.f2.f2 y.f3 y.f4 0).bind fun bt => some (bt.1, bt.2.1, bt.2.2.1, bt.2.2.2.1, bt.2.2.2.2.1, bt.2.2.2.2.2.1, bt.2.2.2.2.2.2)) (fun k => rfl) (Ev.bind (own_is n 40 y 0 h (by omega) (by omega)) (ev_some fun _ => rfl))
theorem okE_cut : ∀ (m p : Nat) (y : S28), m ≤ p → okE m (cutE p y) = okE m y
  | 0, _, _, _ => rfl
  | m + 1, 0, _, h => absurd h (by omega)
  | m + 1, p + 1, y, h => by
    have e : ∀ l : List S28, (l.map (cutE p)).all (okE m) = l.all (okE m) := by
      intro l
      induction l with
      | nil => rfl
      | cons a l ih => rw [List.map_cons, List.all_cons, List.all_cons, ih, okE_cut m p a (by omega)]
    simp only [okE, cutE, List.length_map, e]
theorem cut_of_ok : ∀ (m p : Nat) (y : S28), okE m y = true → m ≤ p → cutE p y = y
  | 0, _, _, h, _ => by cases h
  | m + 1, 0, _, _, h => absurd h (by omega)
  | m + 1, p + 1, y, h, hp => by
    simp only [okE, Bool.and_eq_true, List.all_eq_true] at h
    have e : y.f4.map (cutE p) = y.f4 := by
      have : y.f4.map (cutE p) = y.f4.map id := List.map_congr_left fun z hz => cut_of_ok m p z (h.2 z hz) (by omega)
      rw [this, List.map_id]
    simp only [cutE, e]
    cases y; rfl
theorem cut_fin : ∀ (n p : Nat) (y : S28), finI n y → finI n (cutE p y)
  | 0, _, _, h => h.elim
  | n + 1, 0, y, h => ⟨by simp [cutE], fun z hz => by simp [cutE] at hz⟩
  | n + 1, p + 1, y, h => by
    refine ⟨by simpa [cutE] using h.1, fun z hz => ?_⟩
    simp only [cutE] at hz
    obtain ⟨u, hu, rfl⟩ := List.mem_map.1 hz
    exact cut_fin n p u (h.2 u hu)
/-! #### the chain -/
def stepE (a b : S28) : S28 := ⟨2, 0, ⟨0, 0, ⟨#[]⟩⟩, ⟨#[97, 110, 100]⟩, [a, b]⟩
def constT : S28 := ⟨1, 0, ⟨2, 1, ⟨#[]⟩⟩, ⟨#[]⟩, []⟩
def constN : S28 := ⟨1, 0, ⟨0, 0, ⟨#[]⟩⟩, ⟨#[]⟩, []⟩
def chainE : List S28 → S28
  | [] => constT
  | y :: ys => ys.foldl stepE y
def resE (c : S28) : S28 := if okE 13 c = true then c else constN
theorem step_fin {n : Nat} {a b : S28} (ha : finI n a) (hb : finI n b) : finI (n + 1) (stepE a b) := by
  refine ⟨by simp [stepE], fun z hz => ?_⟩
  rcases List.mem_cons.1 (show z ∈ [a, b] from hz) with rfl | hz
  · exact ha
  · obtain rfl := List.mem_singleton.1 hz
    exact hb
theorem fold_fin : ∀ (ys : List S28) (a : S28) (n : Nat), finI n a → (∀ y ∈ ys, finI n y) → ∃ m, finI m (ys.foldl stepE a)
  | [], a, n, h, _ => ⟨n, h⟩
  | y :: ys, a, n, h, hy => fold_fin ys (stepE a y) (n + 1) (step_fin h (hy y (by simp))) fun z hz => finI_succ _ _ (hy z (by simp [hz]))
theorem constT_fin : finI 1 constT := ⟨by simp [constT], fun z hz => by simp [constT] at hz⟩
theorem constN_fin : finI 1 constN := ⟨by simp [constN], fun z hz => by simp [constN] at hz⟩
theorem chain_fin {n : Nat} {ys : List S28} (h : ∀ y ∈ ys, finI n y) : ∃ m, finI m (chainE ys) := by
  cases ys with
  | nil => exact ⟨1, constT_fin⟩
  | cons y ys => exact fold_fin ys y n (h y (by simp)) fun z hz => h z (by simp [hz])
theorem okE_step (m : Nat) (a b : S28) : okE (m + 1) (stepE a b) = (okE m a && okE m b) := by
  have e : locE 2 0 0 0 ⟨#[]⟩ ⟨#[97, 110, 100]⟩ 2 = true := by decide +kernel
  show (locE 2 0 0 0 ⟨#[]⟩ ⟨#[97, 110, 100]⟩ 2 && (okE m a && (okE m b && true))) = _
  rw [e, Bool.true_and, Bool.and_true]
theorem okE_fold : ∀ (ys : List S28) (a : S28) (m : Nat), okE m (ys.foldl stepE a) = true → ∃ j, m = j + ys.length ∧ okE j a = true ∧ ∀ y ∈ ys, okE m y = true ∨ ∃ i, i ≤ m ∧ okE i y = true
  | [], a, m, h => ⟨m, rfl, h, fun y hy => by cases hy⟩
  | y :: ys, a, m, h => by
    obtain ⟨j, hj, h1, h2⟩ := okE_fold ys (stepE a y) m h
    cases j with
    | zero => cases h1
    | succ j =>
      rw [okE_step, Bool.and_eq_true] at h1
      refine ⟨j, by rw [List.length_cons]; omega, h1.1, fun z hz => ?_⟩
      rcases List.mem_cons.1 hz with rfl | hz
      · exact .inr ⟨j, by omega, h1.2⟩
      · exact h2 z hz
/-- The chain of parts that are cut off far below is right as the chain is. -/
theorem okE_same : ∀ (ys : List S28) (a b : S28), (∀ m, m ≤ 40 → okE m a = okE m b) → ∀ m, m ≤ 40 → okE m (ys.foldl (fun a z => stepE a (cutE 40 z)) a) = okE m (ys.foldl stepE b)
  | [], _, _, h, m, hm => h m hm
  | y :: ys, a, b, h, m, hm => by
    refine okE_same ys (stepE a (cutE 40 y)) (stepE b y) (fun m hm => ?_) m hm
    cases m with
    | zero => rfl
    | succ m => rw [okE_step, okE_step, h m (by omega), okE_cut m 40 y (by omega)]
theorem chain_same (ys : List S28) (a : S28) (h : okE 13 (ys.foldl stepE a) = true) : ys.foldl (fun a z => stepE a (cutE 40 z)) (cutE 40 a) = ys.foldl stepE a := by
  obtain ⟨j, hj, h1, h2⟩ := okE_fold ys a 13 h
  rw [cut_of_ok j 40 a h1 (by omega)]
  have : ∀ (ys : List S28) (a : S28), (∀ y ∈ ys, cutE 40 y = y) → ys.foldl (fun a z => stepE a (cutE 40 z)) a = ys.foldl stepE a := by
    intro ys
    induction ys with
    | nil => exact fun _ _ => rfl
    | cons y ys ih =>
      intro a h
      rw [List.foldl_cons, List.foldl_cons, h y (by simp)]
      exact ih _ fun z hz => h z (by simp [hz])
  refine this ys a fun y hy => ?_
  rcases h2 y hy with h | ⟨i, hi, h⟩
  · exact cut_of_ok 13 40 y h (by omega)
  · exact cut_of_ok i 40 y h (by omega)
/-- A right one, or the null. -/
theorem res_spec (c : S28) {n : Nat} (h : finI n c) : Ev (fun k => (spec_ExpOk.f k c.f0 c.f1 c.f2.f0 c.f2.f1 c.f2.f2 c.f3 c.f4).bind fun t => (if t = true then (some (c.f0, c.f1, c.f2.f0, c.f2.f1, c.f2.f2, c.f3, c.f4)) else ((spec_l03Const.f 0 0 (⟨#[]⟩ : ByteArray)).bind fun bt => (some (bt.1, bt.2.1, bt.2.2.1, bt.2.2.2.1, bt.2.2.2.2.1, bt.2.2.2.2.2.1, bt.2.2.2.2.2.2))))) (tupE (resE c)) := by
  refine Ev.bind (spec_expOk_is c (finI_short n 13 c h)) ?_
  by_cases e : okE 13 c = true
  · rw [show resE c = c from if_pos e]
    exact ev_if_pos e (ev_some fun _ => rfl)
  · rw [show resE c = constN from if_neg e]
    exact ev_if_neg e (ev_some fun _ => rfl)
theorem res_impl (c : S28) {n : Nat} (h : finI n c) : Ev (fun k => (impl_ExpOk.f k c.f0 c.f1 c.f2.f0 c.f2.f1 c.f2.f2 c.f3 c.f4).bind fun t => (if t = true then (some (c.f0, c.f1, c.f2.f0, c.f2.f1, c.f2.f2, c.f3, c.f4)) else ((impl_null.f).bind fun b => ((impl_valueExp.f b.1 b.2.1 b.2.2).bind fun bt => (some (bt.1, bt.2.1, bt.2.2.1, bt.2.2.2.1, bt.2.2.2.2.1, bt.2.2.2.2.2.1, bt.2.2.2.2.2.2)))))) (tupE (resE c)) := by
  refine Ev.bind (impl_expOk_is c (finI_short n 13 c h)) ?_
  by_cases e : okE 13 c = true
  · rw [show resE c = c from if_pos e]
    exact ev_if_pos e (ev_some fun _ => rfl)
  · rw [show resE c = constN from if_neg e]
    exact ev_if_neg e (ev_some fun _ => rfl)
theorem spec_loop (ys : List S28) (hl : ys.length ≤ 1048576) {n : Nat} (hy : ∀ y ∈ ys, finI n y) : ∀ (m i : Nat) (a : S28) (p : Nat), ys.length - i = m → 1 ≤ i → i ≤ ys.length → finI p a →
    Ev (fun k => spec_AndAll.l0 k ys (i : Int) a.f0 a.f1 a.f2.f0 a.f2.f1 a.f2.f2 a.f3 a.f4) (tupE (resE ((ys.drop i).foldl stepE a))) := by
  intro m
  induction m with
  | zero =>
    intro i a p h1 h2 h3 ha
    refine Ev.step (fun k => rfl) (ev_if_neg (by omega) ?_)
    rw [show i = ys.length by omega, List.drop_length]
    exact res_spec a ha
  | succ m ih =>
    intro i a p h1 h2 h3 ha
    have hi : i < ys.length := by omega
    have hm := getD_mem z28 hi
    refine Ev.step (fun k => rfl) (ev_if_pos (by omega) (ev_if_neg (by omega) (ev_if_pos (by omega) (Ev.bind (copy_is n (ys.getD i z28) (hy _ hm)) ?_))))
    rw [wrap_succ hi (by omega)]
    have hs := step_fin (finI_le (show p ≤ max p n by omega) ha) (finI_le (show n ≤ max p n by omega) (hy _ hm))
    have e := ih (i + 1) (stepE a (ys.getD i z28)) (max p n + 1) (by omega) (by omega) (by omega) hs
    rw [drop_cons_getD z28 hi, List.foldl_cons]
    have e1 : [(⟨a.f0, a.f1, (⟨a.f2.f0, a.f2.f1, a.f2.f2⟩ : S25), a.f3, a.f4⟩ : S28), untE (tupE (ys.getD i z28))] = [a, ys.getD i z28] := by rw [mkE_eta, unt_tup]
    show Ev (fun k => spec_AndAll.l0 k ys _ 2 0 0 0 ⟨#[]⟩ ⟨#[97, 110, 100]⟩ [(⟨a.f0, a.f1, (⟨a.f2.f0, a.f2.f1, a.f2.f2⟩ : S25), a.f3, a.f4⟩ : S28), untE (tupE (ys.getD i z28))]) _
    rw [e1]
    exact e
theorem specAndAll_is (ys : List S28) (hl : ys.length ≤ 1048576) {n : Nat} (hy : ∀ y ∈ ys, finI n y) : Ev (fun k => spec_AndAll.f k ys) (tupE (resE (chainE ys))) := by
  refine Ev.congr (fun k => rfl) (ev_bind0 (a := (2, 1, ⟨#[]⟩)) rfl (ev_bind0 (a := tupE constT) rfl ?_))
  cases ys with
  | nil => exact Ev.step (fun k => rfl) (ev_if_neg (by simp) (res_spec constT constT_fin))
  | cons y ys =>
    refine Ev.step (fun k => rfl) (ev_if_pos (by rw [List.length_cons]; omega) (ev_if_pos rfl (ev_if_pos (by rw [List.length_cons]; omega) (Ev.bind (copy_is n y (hy y (by simp))) ?_))))
    rw [show wrap64 ((0 : Int) + 1) = ((1 : Nat) : Int) from by rw [wrap_id (by omega) (by omega)]; rfl]
    exact spec_loop (y :: ys) hl hy _ 1 y n rfl (Nat.le_refl _) (by simp) (hy y (by simp))
theorem impl_loop (zs : List S28) (hl : zs.length ≤ 1048576) {n : Nat} (hy : ∀ y ∈ zs, finI n y) : ∀ (m i : Nat) (a : S28), zs.length - i = m → i ≤ zs.length →
    Ev (fun k => impl_chain.l0 k zs (zs.length : Int) (i : Int) a.f0 a.f1 a.f2.f0 a.f2.f1 a.f2.f2 a.f3 a.f4) (tupE ((zs.drop i).foldl (fun a z => stepE a (cutE 40 z)) a)) := by
  intro m
  induction m with
  | zero =>
    intro i a h1 h2
    refine Ev.step (fun k => rfl) (ev_if_neg (by omega) ?_)
    rw [show i = zs.length by omega, List.drop_length]
    exact ev_some fun _ => rfl
  | succ m ih =>
    intro i a h1 h2
    have hi : i < zs.length := by omega
    have hm := getD_mem z28 hi
    refine Ev.step (fun k => rfl) (ev_if_pos (by omega) (ev_if_pos (by omega) (ev_if_pos (by omega) (Ev.bind (ownExp_is n (zs.getD i z28) (hy _ hm)) ?_))))
    rw [wrap_succ hi (by omega)]
    have e := ih (i + 1) (stepE a (cutE 40 (zs.getD i z28))) (by omega) (by omega)
    rw [drop_cons_getD z28 hi, List.foldl_cons]
    have e1 : [(⟨a.f0, a.f1, (⟨a.f2.f0, a.f2.f1, a.f2.f2⟩ : S25), a.f3, a.f4⟩ : S28), untE (tupE (cutE 40 (zs.getD i z28)))] = [a, cutE 40 (zs.getD i z28)] := by rw [mkE_eta, unt_tup]
    show Ev (fun k => impl_chain.l0 k zs _ _ 2 0 0 0 ⟨#[]⟩ ⟨#[97, 110, 100]⟩ [(⟨a.f0, a.f1, (⟨a.f2.f0, a.f2.f1, a.f2.f2⟩ : S25), a.f3, a.f4⟩ : S28), untE (tupE (cutE 40 (zs.getD i z28)))]) _
    rw [e1]
    exact e
theorem implAndAll_is (ys : List S28) (hl : ys.length ≤ 1048576) {n : Nat} (hy : ∀ y ∈ ys, finI n y) : Ev (fun k => impl_AndAll.f k ys) (tupE (resE (chainE ys))) := by
  by_cases h : (ys.length : Int) > 13
  · have e : ¬ okE 13 (chainE ys) = true := by
      cases ys with
      | nil => simp at h
      | cons y ys =>
        intro h'
        obtain ⟨j, hj, h1, _⟩ := okE_fold ys y 13 h'
        cases j with
        | zero => cases h1
        | succ j => rw [List.length_cons] at h; omega
    refine Ev.congr (fun k => rfl) (ev_if_pos h (ev_conv (ev_some fun _ => rfl) ?_))
    unfold resE
    rw [if_neg e]
    rfl
  · refine Ev.congr (fun k => rfl) (ev_if_neg h ?_)
    cases ys with
    | nil => exact Ev.bind (a := tupE constT) (Ev.congr (fun k => rfl) (ev_if_pos rfl (ev_some fun _ => rfl))) (res_impl constT constT_fin)
    | cons y ys =>
      have hc : Ev (fun k => impl_chain.f k (y :: ys)) (tupE (ys.foldl (fun a z => stepE a (cutE 40 z)) (cutE 40 y))) := by
        refine Ev.congr (fun k => rfl) (ev_if_neg (by rw [List.length_cons]; omega) (ev_if_pos (by rw [List.length_cons]; omega) (Ev.bind (ownExp_is n y (hy y (by simp))) (ev_if_pos (by rw [List.length_cons]; omega) (ev_bind0 (a := ys) rfl ?_)))))
        exact impl_loop ys (by rw [List.length_cons] at hl; omega) (fun z hz => hy z (by simp [hz])) _ 0 (cutE 40 y) rfl (Nat.zero_le _)
      have hf : ∃ m, finI m (ys.foldl (fun a z => stepE a (cutE 40 z)) (cutE 40 y)) := by
        have := fold_fin (ys.map (cutE 40)) (cutE 40 y) n (cut_fin n 40 y (hy y (by simp))) (fun z hz => by
          obtain ⟨u, hu, rfl⟩ := List.mem_map.1 hz
          exact cut_fin n 40 u (hy u (by simp [hu])))
        rwa [List.foldl_map] at this
      obtain ⟨m, hm⟩ := hf
      refine Ev.bind hc (ev_conv (res_impl _ hm) ?_)
      have e : okE 13 (ys.foldl (fun a z => stepE a (cutE 40 z)) (cutE 40 y)) = okE 13 (chainE (y :: ys)) := okE_same ys (cutE 40 y) y (fun m hm => okE_cut m 40 y hm) 13 (by omega)
      congr 1
      unfold resE
      rw [e]
      by_cases h13 : okE 13 (chainE (y :: ys)) = true
      · rw [if_pos h13, if_pos h13]
        exact chain_same ys y h13
      · rw [if_neg h13, if_neg h13]
theorem locE_le {a n v0 v1 : Int} {v2 op : ByteArray} {c : Nat} (h : locE a n v0 v1 v2 op c = true) : c ≤ 2 := by
  unfold locE at h
  by_cases h0 : a = 0
  · rw [if_pos h0] at h
    simp only [Bool.and_eq_true, beq_iff_eq] at h
    omega
  rw [if_neg h0] at h
  by_cases h1 : a = 1
  · rw [if_pos h1] at h
    simp only [Bool.and_eq_true, beq_iff_eq] at h
    omega
  rw [if_neg h1] at h
  by_cases h2 : a = 2
  · rw [if_pos h2] at h
    simp only [Bool.and_eq_true, beq_iff_eq] at h
    omega
  rw [if_neg h2] at h
  by_cases h3 : a = 3 ∨ a = 4
  · rw [if_pos h3] at h
    simp only [Bool.and_eq_true, beq_iff_eq] at h
    omega
  · rw [if_neg h3] at h
    cases h
theorem nd_ok : ∀ (m n : Nat) (y : S28), okE m y = true → ndN n y + 1 ≤ 2 ^ m
  | 0, _, _, h => by cases h
  | m + 1, 0, y, h => by
    have := Nat.one_le_two_pow (n := m + 1)
    unfold ndN
    omega
  | m + 1, n + 1, y, h => by
    simp only [okE, Bool.and_eq_true, List.all_eq_true] at h
    have h2 := locE_le h.1
    have hs : (y.f4.map (ndN n)).sum + y.f4.length ≤ y.f4.length * 2 ^ m := by
      have : ∀ l : List S28, (∀ z ∈ l, ndN n z + 1 ≤ 2 ^ m) → (l.map (ndN n)).sum + l.length ≤ l.length * 2 ^ m := by
        intro l
        induction l with
        | nil => simp
        | cons z l ih =>
          intro hz
          have a := hz z (by simp)
          have b := ih fun u hu => hz u (by simp [hu])
          rw [List.map_cons, List.sum_cons, List.length_cons, Nat.succ_mul]
          omega
      exact this y.f4 fun z hz => nd_ok m n z (h.2 z hz)
    have h1 := Nat.one_le_two_pow (n := m)
    have hp : y.f4.length * 2 ^ m ≤ 2 * 2 ^ m := Nat.mul_le_mul_right _ h2
    show 1 + (y.f4.map (ndN n)).sum + 1 ≤ 2 ^ (m + 1)
    rw [Nat.pow_succ]
    rcases Nat.lt_or_ge y.f4.length 2 with hlt | hge
    · have hp1 : y.f4.length * 2 ^ m ≤ 1 * 2 ^ m := Nat.mul_le_mul_right _ (by omega)
      rcases Nat.lt_or_ge y.f4.length 1 with h0 | h0
      · have e : y.f4.length = 0 := by omega
        have hp0 : y.f4.length * 2 ^ m = 0 := by rw [e, Nat.zero_mul]
        omega
      · omega
    · omega
/-- What comes out: so deep, its kids few. -/
theorem res_fin {c : S28} {n : Nat} (h : finI n c) : ∃ m, finI (m + 1) (resE c) ∧ ndS m (resE c).f4 ≤ 8192 := by
  unfold resE
  by_cases e : okE 13 c = true
  · rw [if_pos e]
    cases n with
    | zero => exact h.elim
    | succ n =>
      refine ⟨n, h, ?_⟩
      have := nd_ok 13 (n + 1) c e
      unfold ndN at this
      unfold ndS
      omega
  · rw [if_neg e]
    exact ⟨0, constN_fin, by simp [ndS, constN]⟩
/-! #### marks in expressions -/
theorem markText_loop : ∀ (N n : Nat) (x : ByteArray), n ≤ N → x.size + N ≤ 1000000000000 → ∃ t, Ev (fun k => laws_markText.l0 k (n : Int) x) t
  | 0, n, x, h1, h2 => ⟨_, Ev.step (fun k => rfl) (ev_if_neg (by omega) (ev_if_pos (by omega) (ev_some fun _ => rfl)))⟩
  | N + 1, n, x, h1, h2 => by
    by_cases h : (n : Int) > 0
    · have e : wrap64 (Int.tdiv (n : Int) 10) = ((n / 10 : Nat) : Int) := by
        rw [show Int.tdiv (n : Int) 10 = ((n / 10 : Nat) : Int) from by rw [Int.tdiv_eq_ediv_of_nonneg (by omega)]; omega, wrap_id (by omega) (by omega)]
      have hz : ∀ y : Int, (strOfNums [y]).size = 1 := fun y => by rw [strOfNums_mk, mkB_size]; rfl
      obtain ⟨t, ht⟩ := markText_loop N (n / 10) (strOfNums [(wrap64 (48 + (Int.tmod (n : Int) 10))) % 256] ++ x) (by omega) (by rw [ByteArray.size_append, hz]; omega)
      refine ⟨t, Ev.step (fun k => rfl) (ev_if_pos h (ev_bind0 rfl (ev_if_pos (by rw [hz]; omega) ?_)))⟩
      rw [e]
      exact ht
    · exact ⟨_, Ev.step (fun k => rfl) (ev_if_neg h (ev_if_pos (by omega) (ev_some fun _ => rfl)))⟩
theorem markText_ex (n : Nat) (h : n ≤ 100000000000) : ∃ t, Ev (fun k => laws_markText.f k (n : Int)) t := by
  by_cases h0 : (n : Int) ≤ 0
  · exact ⟨_, Ev.congr (fun k => if_pos h0) (ev_some fun _ => rfl)⟩
  · obtain ⟨t, ht⟩ := markText_loop n n ⟨#[]⟩ (Nat.le_refl _) (by show 0 + n ≤ _; omega)
    exact ⟨t, Ev.congr (fun k => if_neg h0) ht⟩
theorem set_mid {α : Type} (pre : List α) (v y : α) (rest : List α) : (pre ++ v :: rest).set pre.length y = pre ++ y :: rest := by
  induction pre with
  | nil => rfl
  | cons a pre ih => simp [ih]
theorem getD_mid {α : Type} (pre : List α) (v : α) (rest : List α) (z : α) : (pre ++ v :: rest).getD pre.length z = v := by
  induction pre with
  | nil => rfl
  | cons a pre ih => exact ih
theorem wrap_one {a : Nat} (h : a + 1 ≤ 1000000000000) : wrap64 ((a : Int) + 1) = ((a + 1 : Nat) : Int) := by
  rw [wrap_id (by omega) (by omega)]
  omega
theorem ndS_cons (n : Nat) (y : S28) (ys : List S28) : ndS n (y :: ys) = ndN n y + ndS n ys := by
  unfold ndS
  rw [List.map_cons, List.sum_cons]
theorem nd0 (n k0 : Nat) : k0 + 6 * ndS n ([] : List S28) = k0 := by simp [ndS]
theorem mark_nil (pre : List S28) (k0 : Int) : Ev (fun k => laws_markExpS.l0 k (pre ++ []) k0 (pre.length : Int)) (k0, pre ++ []) :=
  Ev.step (fun k => laws_markExpS.l0.eq_2 _ _ _ k) (ev_if_neg (by simp) (ev_some fun _ => rfl))
theorem held_nil (pre : List S28) (k0 : Int) : Ev (fun k => laws_heldExpS.l0 k (pre ++ []) k0 (pre.length : Int)) k0 :=
  Ev.step (fun k => laws_heldExpS.l0.eq_2 _ _ _ k) (ev_if_neg (by simp) (ev_some fun _ => rfl))
/-- The marks are put from k0 on, six an expression; who looks for them finds them. -/
theorem marks_is : ∀ (n : Nat) (ys : List S28) (k0 : Nat), (∀ y ∈ ys, finI n y) → ys.length ≤ 1048576 → k0 + 6 * ndS n ys ≤ 1000000000 →
    ∃ zs, zs.length = ys.length ∧ Ev (fun k => laws_markExpS.f k ys (k0 : Int)) (((k0 + 6 * ndS n ys : Nat) : Int), zs) ∧ Ev (fun k => laws_heldExpS.f k zs (k0 : Int)) ((k0 + 6 * ndS n ys : Nat) : Int) := by
  intro n
  induction n with
  | zero =>
    intro ys k0 h hl hk
    cases ys with
    | cons y ys => exact (h y (by simp)).elim
    | nil =>
      rw [nd0]
      exact ⟨[], rfl, Ev.step (f := fun k => laws_markExpS.l0 k [] (k0 : Int) 0) (fun k => rfl) (mark_nil [] k0), Ev.step (f := fun k => laws_heldExpS.l0 k [] (k0 : Int) 0) (fun k => rfl) (held_nil [] k0)⟩
  | succ n ih =>
    have loop : ∀ (rest : List S28) (k0 : Nat), (∀ y ∈ rest, finI (n + 1) y) → k0 + 6 * ndS (n + 1) rest ≤ 1000000000 →
        ∃ zs, zs.length = rest.length ∧ (∀ pre : List S28, pre.length + rest.length ≤ 1048576 → Ev (fun k => laws_markExpS.l0 k (pre ++ rest) (k0 : Int) (pre.length : Int)) (((k0 + 6 * ndS (n + 1) rest : Nat) : Int), pre ++ zs)) ∧ (∀ pre : List S28, pre.length + rest.length ≤ 1048576 → Ev (fun k => laws_heldExpS.l0 k (pre ++ zs) (k0 : Int) (pre.length : Int)) ((k0 + 6 * ndS (n + 1) rest : Nat) : Int)) := by
      intro rest
      induction rest with
      | nil =>
        intro k0 _ _
        rw [nd0]
        exact ⟨[], rfl, fun pre _ => mark_nil pre k0, fun pre _ => held_nil pre k0⟩
      | cons y rest ihr =>
        intro k0 h hk
        obtain ⟨A, hA⟩ : ∃ A, ndS n y.f4 = A := ⟨_, rfl⟩
        obtain ⟨B, hB⟩ : ∃ B, ndS (n + 1) rest = B := ⟨_, rfl⟩
        have e0 : ndS (n + 1) (y :: rest) = 1 + A + B := by
          rw [ndS_cons, hB, ← hA]
          rfl
        rw [e0] at hk
        rw [e0]
        have hy := h y (by simp)
        have ih' := ih y.f4 (k0 + 6) hy.2 hy.1
        rw [hA] at ih'
        have ihr' := ihr (k0 + 6 + 6 * A) (fun z hz => h z (by simp [hz]))
        rw [hB] at ihr'
        have en : k0 + 6 * (1 + A + B) = k0 + 6 + 6 * A + 6 * B := by omega
        rw [en]
        have k1 : k0 + 6 + 6 * A ≤ 1000000000 := by omega
        have k2 : k0 + 6 + 6 * A + 6 * B ≤ 1000000000 := by omega
        have k3 : k0 ≤ 1000000000 := by omega
        have k4 : 0 ≤ k0 + 6 + 6 * A := Nat.zero_le _
        clear e0 en hk ih ihr hA hB
        obtain ⟨ks, kl, km, kh⟩ := ih' k1
        obtain ⟨zs, zl, zm, zh⟩ := ihr' k2
        clear ih' ihr'
        obtain ⟨t4, h4⟩ := markText_ex (k0 + 4) (by omega)
        obtain ⟨t5, h5⟩ := markText_ex (k0 + 5) (by omega)
        have W : ∀ a b : Nat, a + 1 = b → a ≤ 100000000000 → wrap64 ((a : Int) + 1) = (b : Int) := fun a b e h => e ▸ wrap_one (Nat.le_trans (Nat.succ_le_succ h) (by decide))
        have q : ∀ j, j ≤ 6 → k0 + j ≤ 100000000000 := fun j hj => by omega
        let z : S28 := ⟨(k0 : Int), ((k0 + 1 : Nat) : Int), ⟨((k0 + 2 : Nat) : Int), ((k0 + 3 : Nat) : Int), t4⟩, t5, ks⟩
        refine ⟨z :: zs, by rw [List.length_cons, List.length_cons, zl], fun pre hp => ?_, fun pre hp => ?_⟩
        · rw [List.length_cons] at hp
          refine Ev.step (fun k => laws_markExpS.l0.eq_2 _ _ _ k) (ev_if_pos (by rw [List.length_append, List.length_cons]; omega) (ev_if_pos (by omega) ?_))
          rw [W (k0) (k0 + 1) rfl (q 0 (by decide)), W (k0 + 1) (k0 + 2) rfl (q 1 (by decide)), W (k0 + 2) (k0 + 3) rfl (q 2 (by decide)), W (k0 + 3) (k0 + 4) rfl (q 3 (by decide)), W (k0 + 4) (k0 + 5) rfl (q 4 (by decide)), W (k0 + 5) (k0 + 6) rfl (q 5 (by decide))]
          refine Ev.bind h4 (Ev.bind h5 ?_)
          have g : (rd_T28 (pre ++ y :: rest) (pre.length : Int)).f4 = y.f4 := by
            unfold rd_T28
            rw [Int.toNat_natCast, getD_mid]
          rw [g]
          refine Ev.bind km ?_
          have e := zm (pre ++ [z]) (by rw [List.length_append]; simp; omega)
          rw [List.append_assoc, List.append_assoc, List.length_append] at e
          have e2 : (pre ++ y :: rest).set ((pre.length : Int)).toNat z = pre ++ z :: rest := by rw [Int.toNat_natCast, set_mid]
          show Ev (fun k => laws_markExpS.l0 k ((pre ++ y :: rest).set ((pre.length : Int)).toNat z) ((k0 + 6 + 6 * A : Nat) : Int) (wrap64 ((pre.length : Int) + 1))) _
          rw [e2, wrap_one (a := pre.length) (by omega)]
          exact e
        · rw [List.length_cons] at hp
          have g : rd_T28 (pre ++ z :: zs) (pre.length : Int) = z := by
            unfold rd_T28
            rw [Int.toNat_natCast, getD_mid]
          refine Ev.step (fun k => laws_heldExpS.l0.eq_2 _ _ _ k) (ev_if_pos (by rw [List.length_append, List.length_cons]; omega) (ev_if_pos (by omega) ?_))
          rw [W (k0) (k0 + 1) rfl (q 0 (by decide)), W (k0 + 1) (k0 + 2) rfl (q 1 (by decide)), W (k0 + 2) (k0 + 3) rfl (q 2 (by decide)), W (k0 + 3) (k0 + 4) rfl (q 3 (by decide)), W (k0 + 4) (k0 + 5) rfl (q 4 (by decide)), W (k0 + 5) (k0 + 6) rfl (q 5 (by decide)), g]
          refine ev_if_pos rfl (ev_if_pos rfl (ev_if_pos rfl (ev_if_pos rfl (Ev.bind h4 (ev_if_pos rfl (Ev.bind h5 (ev_if_pos rfl (Ev.bind kh (ev_if_neg (by omega) ?_)))))))))
          have e := zh (pre ++ [z]) (by rw [List.length_append]; simp; omega)
          rw [List.append_assoc, List.length_append] at e
          rw [wrap_one (a := pre.length) (by omega)]
          exact e
    intro ys k0 h hl hk
    obtain ⟨zs, zl, zm, zh⟩ := loop ys k0 h hk
    refine ⟨zs, zl, Ev.step (fun k => rfl) ?_, Ev.step (fun k => rfl) ?_⟩
    · exact zm [] (by simpa using hl)
    · exact zh [] (by simpa using hl)
end Go.Proofs.Ytapgfamppnhnmaa.PFnExactAndAll
