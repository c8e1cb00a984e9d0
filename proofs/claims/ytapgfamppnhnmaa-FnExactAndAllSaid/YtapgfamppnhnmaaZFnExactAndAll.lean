/- Plain lemmas on loops by rounds: no program in sight. -/
import Derived.Test.YtapgfamppnhnmaaWWords
import Derived.Laws.BitsLemmas
import Derived.Lib.Strings
namespace Go.Proofs.Ytapgfamppnhnmaa.ZFnExactAndAll
open Go.RowKit Go.Proofs.YtapgfamppnhnmaaW.PrintWords
set_option linter.unusedVariables false

theorem wrap_id {x : Int} (h : -9223372036854775808 ≤ x) (h' : x ≤ 9223372036854775807) : wrap64 x = x := by unfold wrap64; omega
theorem wrap_succ {i n : Nat} (h : i < n) (hn : n ≤ 9223372036854775807) : wrap64 ((i : Int) + 1) = ((i + 1 : Nat) : Int) := by
  rw [wrap_id (by omega) (by omega)]
  omega

theorem ev_some {α : Type} {g : Nat → Option α} {r : α} (h : ∀ k, g k = some r) : Ev g r := ⟨0, fun k _ => h k⟩
theorem ev_if_pos {α : Type} {c : Prop} [Decidable c] {g f : Nat → Option α} {r : α} (hc : c) (h : Ev g r) : Ev (fun k => if c then g k else f k) r := Ev.congr (fun k => if_pos hc) h
theorem ev_if_neg {α : Type} {c : Prop} [Decidable c] {g f : Nat → Option α} {r : α} (hc : ¬ c) (h : Ev f r) : Ev (fun k => if c then g k else f k) r := Ev.congr (fun k => if_neg hc) h
theorem ev_bind0 {α β : Type} {g : Option α} {f : Nat → α → Option β} {a : α} {r : β} (h : g = some a) (k : Ev (fun n => f n a) r) : Ev (fun n => g.bind (f n)) r := Ev.congr (fun n => by rw [h]; rfl) k
theorem ev_conv {α : Type} {g : Nat → Option α} {r r' : α} (h : Ev g r) (e : r = r') : Ev g r' := e ▸ h

/-- What is left of l behind w; -1 where it is not enough. -/
def lft (l : Int) (w : Nat) : Int := if (w : Int) ≤ l then l - w else -1
theorem lft_of_le {l : Int} {w : Nat} (h : (w : Int) ≤ l) : lft l w = l - w := if_pos h
theorem lft_of_gt {l : Int} {w : Nat} (h : ¬ (w : Int) ≤ l) : lft l w = -1 := if_neg h
theorem lft_nonneg {l : Int} {w : Nat} (h : ¬ lft l w < 0) : (w : Int) ≤ l ∧ lft l w = l - w := by
  by_cases hw : (w : Int) ≤ l
  · exact ⟨hw, lft_of_le hw⟩
  · rw [lft_of_gt hw] at h
    omega

theorem drop_cons_getD {α : Type} (d : α) {xs : List α} {i : Nat} (h : i < xs.length) : xs.drop i = xs.getD i d :: xs.drop (i + 1) := by
  rw [List.drop_eq_getElem_cons h, List.getD_eq_getElem?_getD, List.getElem?_eq_getElem h]
  rfl
theorem getD_mem {α : Type} (d : α) {xs : List α} {i : Nat} (h : i < xs.length) : xs.getD i d ∈ xs := by
  rw [List.getD_eq_getElem?_getD, List.getElem?_eq_getElem h]
  exact List.getElem_mem h

/-- Elements are taken off a bound one by one. -/
theorem sz_loop {α : Type} (d : α) (L : Nat → List α → Int → Int → Option Int) (E : Nat → α → Int → Option Int) (wt : α → Nat)
    (hL : ∀ k xs l i, L (k + 1) xs l i = if i < (xs.length : Int) then (if 0 ≤ i then ((E k (xs.getD i.toNat d) l).bind fun t => if t < 0 then some (-1) else L k xs t (wrap64 (i + 1))) else none) else some l)
    (xs : List α) (hn : xs.length ≤ 9223372036854775807) (hE : ∀ x ∈ xs, ∀ l, 0 ≤ l → l ≤ 1048576 → Ev (fun k => E k x l) (lft l (wt x))) :
    ∀ (n i : Nat) (l : Int), xs.length - i = n → i ≤ xs.length → 0 ≤ l → l ≤ 1048576 → Ev (fun k => L k xs l i) (lft l ((xs.drop i).map wt).sum) := by
  intro n
  induction n with
  | zero =>
    intro i l h1 h2 h3 h4
    have e : i = xs.length := by omega
    refine Ev.step (fun k => hL k xs l i) (ev_if_neg (by omega) ?_)
    rw [e, List.drop_length]
    exact ev_conv (ev_some fun _ => rfl) (by simp [lft, h3])
  | succ n ih =>
    intro i l h1 h2 h3 h4
    have hi : i < xs.length := by omega
    refine Ev.step (fun k => hL k xs l i) (ev_if_pos (by omega) (ev_if_pos (by omega) ?_))
    rw [drop_cons_getD d hi, List.map_cons, List.sum_cons, Int.toNat_natCast]
    refine Ev.bind (hE _ (getD_mem d hi) l h3 h4) ?_
    by_cases hw : ((wt (xs.getD i d) : Nat) : Int) ≤ l
    · rw [lft_of_le hw, wrap_succ hi hn]
      refine ev_if_neg (by omega) (ev_conv (ih (i + 1) _ (by omega) (by omega) (by omega) (by omega)) ?_)
      by_cases hr : (((xs.drop (i + 1)).map wt).sum : Int) ≤ l - (wt (xs.getD i d) : Nat)
      · rw [lft_of_le hr, lft_of_le (by omega)]
        omega
      · rw [lft_of_gt hr, lft_of_gt (by omega)]
    · rw [lft_of_gt hw]
      exact ev_if_pos (by omega) (ev_conv (ev_some fun _ => rfl) (lft_of_gt (by omega)).symm)

theorem sz_list {α : Type} (d : α) (F : Nat → List α → Int → Option Int) (L : Nat → List α → Int → Int → Option Int) (E : Nat → α → Int → Option Int) (wt : α → Nat)
    (hF : ∀ k xs l, F k xs l = if wrap64 (l - (xs.length : Int)) < 0 then some (-1) else L k xs (wrap64 (l - (xs.length : Int))) 0)
    (hL : ∀ k xs l i, L (k + 1) xs l i = if i < (xs.length : Int) then (if 0 ≤ i then ((E k (xs.getD i.toNat d) l).bind fun t => if t < 0 then some (-1) else L k xs t (wrap64 (i + 1))) else none) else some l)
    (xs : List α) (hn : xs.length ≤ 9223372036854775807) (hE : ∀ x ∈ xs, ∀ l, 0 ≤ l → l ≤ 1048576 → Ev (fun k => E k x l) (lft l (wt x))) (l : Int) (h0 : 0 ≤ l) (h1 : l ≤ 1048576) :
    Ev (fun k => F k xs l) (lft l (xs.length + (xs.map wt).sum)) := by
  refine Ev.congr (fun k => hF k xs l) ?_
  rw [wrap_id (x := l - (xs.length : Int)) (by omega) (by omega)]
  by_cases h : l - (xs.length : Int) < 0
  · exact ev_if_pos h (ev_conv (ev_some fun _ => rfl) (lft_of_gt (by omega)).symm)
  · refine ev_if_neg h (ev_conv (sz_loop d L E wt hL xs hn hE xs.length 0 _ (by omega) (by omega) (by omega) (by omega)) ?_)
    rw [List.drop_zero]
    by_cases hr : ((xs.map wt).sum : Int) ≤ l - (xs.length : Int)
    · rw [lft_of_le hr, lft_of_le (by omega)]
      omega
    · rw [lft_of_gt hr, lft_of_gt (by omega)]

/-- A list is made of another one, place by place. -/
theorem map_loop {α β γ : Type} (d : α) (L : Nat → List α → List β → Int → Option (List β)) (E : Nat → α → Option γ) (mk : γ → β) (g : α → γ)
    (hL : ∀ k xs ys i, L (k + 1) xs ys i = if i < (xs.length : Int) then (if 0 ≤ i then ((E k (xs.getD i.toNat d)).bind fun b => if i < (ys.length : Int) then L k xs (ys.set i.toNat (mk b)) (wrap64 (i + 1)) else none) else none) else some ys)
    (xs : List α) (hn : xs.length ≤ 9223372036854775807) (hE : ∀ x ∈ xs, Ev (fun k => E k x) (g x)) :
    ∀ (n i : Nat) (ys : List β), xs.length - i = n → i ≤ xs.length → ys.length = xs.length → Ev (fun k => L k xs ys i) (ys.take i ++ (xs.drop i).map (fun x => mk (g x))) := by
  intro n
  induction n with
  | zero =>
    intro i ys h1 h2 h3
    have e : i = xs.length := by omega
    refine Ev.step (fun k => hL k xs ys i) (ev_if_neg (by omega) (ev_conv (ev_some fun _ => rfl) ?_))
    rw [e, List.drop_length, ← h3, List.take_length]
    simp
  | succ n ih =>
    intro i ys h1 h2 h3
    have hi : i < xs.length := by omega
    refine Ev.step (fun k => hL k xs ys i) (ev_if_pos (by omega) (ev_if_pos (by omega) ?_))
    rw [Int.toNat_natCast]
    refine Ev.bind (hE _ (getD_mem d hi)) (ev_if_pos (by omega) ?_)
    rw [wrap_succ hi hn]
    refine ev_conv (ih (i + 1) _ (by omega) (by omega) (by simpa using h3)) ?_
    rw [drop_cons_getD d hi, List.map_cons, List.take_succ_eq_append_getElem (by simp; omega)]
    simp [List.take_set_of_le]

theorem map_list {α β γ : Type} (d : α) (z : β) (F : Nat → List α → Option (List β)) (L : Nat → List α → List β → Int → Option (List β)) (E : Nat → α → Option γ) (mk : γ → β) (g : α → γ) (B : Nat)
    (hF : ∀ k xs, F k xs = if 0 ≤ (xs.length : Int) then (if ((xs.length : Int) : Int).toNat ≤ B then L k xs (List.replicate ((xs.length : Int) : Int).toNat z) 0 else none) else none)
    (hL : ∀ k xs ys i, L (k + 1) xs ys i = if i < (xs.length : Int) then (if 0 ≤ i then ((E k (xs.getD i.toNat d)).bind fun b => if i < (ys.length : Int) then L k xs (ys.set i.toNat (mk b)) (wrap64 (i + 1)) else none) else none) else some ys)
    (xs : List α) (hn : xs.length ≤ B) (hB : B ≤ 9223372036854775807) (hE : ∀ x ∈ xs, Ev (fun k => E k x) (g x)) : Ev (fun k => F k xs) (xs.map (fun x => mk (g x))) := by
  refine Ev.congr (fun k => hF k xs) (ev_if_pos (by omega) (ev_if_pos (by simpa using hn) ?_))
  exact ev_conv (map_loop d L E mk g hL xs (by omega) hE xs.length 0 _ (by omega) (by omega) (by simp)) (by simp)

/-- A list is held against itself. -/
theorem eq_loop {α : Type} (d : α) (L : Nat → List α → List α → Int → Option Bool) (E : Nat → α → α → Option Bool)
    (hL : ∀ k xs ys i, L (k + 1) xs ys i = if i < (xs.length : Int) then (if 0 ≤ i then (if i < (ys.length : Int) then ((E k (xs.getD i.toNat d) (ys.getD i.toNat d)).bind fun t => if t = true then L k xs ys (wrap64 (i + 1)) else some false) else none) else none) else some true)
    (xs : List α) (hn : xs.length ≤ 9223372036854775807) (hE : ∀ x ∈ xs, Ev (fun k => E k x x) true) :
    ∀ (n i : Nat), xs.length - i = n → i ≤ xs.length → Ev (fun k => L k xs xs i) true := by
  intro n
  induction n with
  | zero => exact fun i h1 h2 => Ev.step (fun k => hL k xs xs i) (ev_if_neg (by omega) (ev_some fun _ => rfl))
  | succ n ih =>
    intro i h1 h2
    have hi : i < xs.length := by omega
    refine Ev.step (fun k => hL k xs xs i) (ev_if_pos (by omega) (ev_if_pos (by omega) (ev_if_pos (by omega) ?_)))
    rw [Int.toNat_natCast]
    refine Ev.bind (hE _ (getD_mem d hi)) (ev_if_pos rfl ?_)
    rw [wrap_succ hi hn]
    exact ih (i + 1) (by omega) (by omega)

theorem eq_list {α : Type} (d : α) (F : Nat → List α → List α → Option Bool) (L : Nat → List α → List α → Int → Option Bool) (E : Nat → α → α → Option Bool)
    (hF : ∀ k xs ys, F k xs ys = if (xs.length : Int) = (ys.length : Int) then L k xs ys 0 else some false)
    (hL : ∀ k xs ys i, L (k + 1) xs ys i = if i < (xs.length : Int) then (if 0 ≤ i then (if i < (ys.length : Int) then ((E k (xs.getD i.toNat d) (ys.getD i.toNat d)).bind fun t => if t = true then L k xs ys (wrap64 (i + 1)) else some false) else none) else none) else some true)
    (xs : List α) (hn : xs.length ≤ 9223372036854775807) (hE : ∀ x ∈ xs, Ev (fun k => E k x x) true) : Ev (fun k => F k xs xs) true :=
  Ev.congr (fun k => hF k xs xs) (ev_if_pos rfl (eq_loop d L E hL xs hn hE xs.length 0 (by omega) (by omega)))

/-! ### bytes -/
def mkB (l : List UInt8) : ByteArray := ⟨l.toArray⟩
theorem mkB_data (l : List UInt8) : (mkB l).data.toList = l := rfl
theorem mkB_size (l : List UInt8) : (mkB l).size = l.length := by simp [mkB, ByteArray.size]
theorem mkB_of (s : ByteArray) : mkB s.data.toList = s := by cases s; simp [mkB]
theorem mkB_append (a b : List UInt8) : mkB a ++ mkB b = mkB (a ++ b) := by
  apply ByteArray.ext
  simp [mkB]
theorem mkB_inj {a b : List UInt8} (h : mkB a = mkB b) : a = b := by
  have := congrArg (fun s : ByteArray => s.data.toList) h
  exact this
theorem toList_mkB (l : List UInt8) : (mkB l).toList = l := by rw [ByteArray.toList_eq]; rfl
theorem toList_data (s : ByteArray) : s.toList = s.data.toList := ByteArray.toList_eq s
theorem size_data (s : ByteArray) : s.size = s.data.toList.length := by rw [Array.length_toList]; rfl
def u8 (n : Int) : UInt8 := UInt8.ofNat n.toNat
theorem strOfNums_mk (xs : List Int) : strOfNums xs = mkB (xs.map u8) := rfl

theorem or_low (x : Int) (c : Nat) (hc : c < 256) (hx : x % 256 = 0) : bits .or .i64 x (c : Int) = wrap64 (x + c) := by
  have e : bits .or .i64 x (c : Int) = IntKind.i64.wrap (((BitVec.ofInt 64 x) ||| (BitVec.ofInt 64 (c : Int))).toNat : Int) := rfl
  rw [e, BitVec.toNat_or, BitVec.toNat_ofInt, BitVec.ofInt_natCast, BitVec.toNat_ofNat, Nat.mod_eq_of_lt (show c < 2 ^ 64 by omega)]
  obtain ⟨A, hA⟩ : ∃ A : Nat, A = (x % 18446744073709551616).toNat := ⟨_, rfl⟩
  have hA' : (x % ((2 ^ 64 : Nat) : Int)).toNat = A := by rw [hA]; rfl
  rw [hA']
  have hA0 : (A : Int) = x % 18446744073709551616 := by rw [hA]; omega
  have hA1 : A % 256 = 0 := by omega
  have hq : A = 2 ^ 8 * (A / 2 ^ 8) := by omega
  have hor : A ||| c = A + c := by
    rw [hq, ← Nat.two_pow_add_eq_or_of_lt (show c < 2 ^ 8 by omega) (A / 2 ^ 8)]
  rw [hor, IntKind.wrap_i64]
  unfold wrap64
  omega

/-- The number that bytes tell, the highest first. -/
def beN (l : List UInt8) : Nat := l.foldl (fun n c => n * 256 + c.toNat) 0
theorem beN_snoc (l : List UInt8) (c : UInt8) : beN (l ++ [c]) = beN l * 256 + c.toNat := by simp [beN]
theorem be_step (n : Int) (c : Nat) (hc : c < 256) : bits .or .i64 (wrap64 (wrap64 n * 256)) (c : Int) = wrap64 (n * 256 + c) := by
  rw [or_low _ c hc (by unfold wrap64; omega)]
  unfold wrap64
  omega

theorem snoc_ind {α : Type} {p : List α → Prop} (h0 : p []) (h1 : ∀ l a, p l → p (l ++ [a])) (l : List α) : p l := by
  have h : ∀ m : List α, p m.reverse := by
    intro m
    induction m with
    | nil => exact h0
    | cons a m ih => rw [List.reverse_cons]; exact h1 _ _ ih
  have := h l.reverse
  rwa [List.reverse_reverse] at this
theorem beN_cons (c : UInt8) (l : List UInt8) : ∀ n, (c :: l).foldl (fun n c => n * 256 + c.toNat) n = l.foldl (fun n c => n * 256 + c.toNat) (n * 256 + c.toNat) := fun _ => rfl
theorem beN_lt (l : List UInt8) : beN l < 256 ^ l.length := by
  refine snoc_ind (p := fun l => beN l < 256 ^ l.length) (by simp [beN]) (fun l c ih => ?_) l
  show beN (l ++ [c]) < 256 ^ (l ++ [c]).length
  rw [beN_snoc, List.length_append, List.length_singleton, Nat.pow_succ]
  have := c.toNat_lt
  omega
theorem beN_nil : beN [] = 0 := rfl
theorem beN_one (c : UInt8) : beN [c] = c.toNat := by simp [beN]
theorem bt_data (s : ByteArray) (i : Int) : bt s i = ((s.data.toList.getD i.toNat 0).toNat : Int) := by
  unfold bt
  split
  · rename_i h
    rw [List.getD_eq_getElem?_getD, List.getElem?_eq_getElem (by simpa using h)]
    rfl
  · rename_i h
    rw [List.getD_eq_getElem?_getD, List.getElem?_eq_none (by simp; omega)]
    rfl
theorem extract_mk (s : ByteArray) (a b : Nat) : s.extract a b = mkB ((s.data.toList.drop a).take (b - a)) := by
  rw [← mkB_of (s.extract a b), Go.Lib.extract_data]

/-- The value that bytes begin with, and how many they are. -/
def getV : List UInt8 → Option ((Int × Int × List UInt8) × Nat)
  | [] => none
  | c :: t =>
    if c.toNat = 1 then (if 8 ≤ t.length then some ((1, wrap64 (beN (t.take 8) : Int), []), 9) else none)
    else if c.toNat = 2 then (match t with | [] => none | b :: _ => if b.toNat ≤ 1 then some ((2, (b.toNat : Int), []), 2) else none)
    else if c.toNat = 3 then (match t with | [] => none | m :: u => if m.toNat ≤ 100 ∧ m.toNat ≤ u.length then some ((3, 0, u.take m.toNat), 2 + m.toNat) else none)
    else if c.toNat = 0 then some ((0, 0, []), 1) else none
/-- The same, as it is handed back from place i on. -/
def packV (i : Nat) : Option ((Int × Int × List UInt8) × Nat) → Int × Int × ByteArray × Int
  | some ((a, b, x), n) => (a, b, mkB x, ((i + n : Nat) : Int))
  | none => (0, 0, mkB [], -1)
def getAt (s : ByteArray) (i : Int) : Int × Int × ByteArray × Int := if 0 ≤ i ∧ i ≤ (s.size : Int) then packV i.toNat (getV (s.data.toList.drop i.toNat)) else (0, 0, mkB [], -1)

/-- A loop that goes on as long as all is as told, and ends in what is told of the end. -/
theorem all_loop (n : Nat) (L : Nat → Int → Option Bool) (good : Nat → Prop) (tail : Prop)
    (hend : ∀ r : Bool, (r = true ↔ tail) → Ev (fun k => L k (n : Int)) r)
    (hstep : ∀ i, i < n → ∀ r : Bool, (good i → Ev (fun k => L k ((i + 1 : Nat) : Int)) r) → (¬ good i → r = false) → Ev (fun k => L k (i : Int)) r)
    (r : Bool) (hr : r = true ↔ (∀ j, j < n → good j) ∧ tail) : Ev (fun k => L k 0) r := by
  have h : ∀ (m i : Nat) (r : Bool), n - i = m → i ≤ n → (r = true ↔ (∀ j, i ≤ j → j < n → good j) ∧ tail) → Ev (fun k => L k (i : Int)) r := by
    intro m
    induction m with
    | zero =>
      intro i r h1 h2 hr
      obtain rfl : i = n := by omega
      exact hend r (hr.trans ⟨fun h => h.2, fun h => ⟨fun j _ _ => by omega, h⟩⟩)
    | succ m ih =>
      intro i r h1 h2 hr
      refine hstep i (by omega) r (fun g => ih (i + 1) r (by omega) (by omega) (hr.trans ⟨fun h => ⟨fun j hj hj' => h.1 j (by omega) hj', h.2⟩, fun h => ⟨fun j hj hj' => ?_, h.2⟩⟩)) fun g => ?_
      · by_cases e : j = i
        · exact e ▸ g
        · exact h.1 j (by omega) hj'
      · cases r with
        | false => rfl
        | true => exact absurd ((hr.1 rfl).1 i (Nat.le_refl _) (by omega)) g
  exact h n 0 r rfl (Nat.zero_le _) (hr.trans ⟨fun h => ⟨fun j _ hj => h.1 j hj, h.2⟩, fun h => ⟨fun j hj => h.1 j (Nat.zero_le _) hj, h.2⟩⟩)
theorem wrap_pred {i : Nat} (h : 0 < i) (hn : i ≤ 9223372036854775807) : wrap64 ((i : Int) - 1) = ((i - 1 : Nat) : Int) := by
  rw [wrap_id (by omega) (by omega)]
  omega
theorem forall_getD {α : Type} (d : α) {xs : List α} {p : α → Prop} : (∀ j, j < xs.length → p (xs.getD j d)) ↔ ∀ x ∈ xs, p x := by
  constructor
  · intro h x hx
    obtain ⟨j, hj, rfl⟩ := List.getElem_of_mem hx
    have := h j hj
    rwa [List.getD_eq_getElem?_getD, List.getElem?_eq_getElem hj] at this
  · intro h j hj
    exact h _ (getD_mem d hj)

/-! ### functions that call each other: what an element tells is told of by a function without rounds -/
theorem ev_all {α : Type} {P : Nat → α → Prop} : ∀ {xs : List α}, (∀ y ∈ xs, ∃ K, ∀ k, K ≤ k → P k y) → ∃ K, ∀ k, K ≤ k → ∀ y ∈ xs, P k y
  | [], _ => ⟨0, fun _ _ y hy => by cases hy⟩
  | x :: xs, h => by
    obtain ⟨K, hK⟩ := h x (by simp)
    obtain ⟨K', hK'⟩ := ev_all (xs := xs) (P := P) fun y hy => h y (by simp [hy])
    refine ⟨max K K', fun k hk y hy => ?_⟩
    rcases List.mem_cons.1 hy with rfl | hy
    · exact hK k (by omega)
    · exact hK' k (by omega) y hy
theorem sum_le_of_mem0 {α : Type} (f : α → Nat) {l : List α} {x : α} (h : x ∈ l) : f x ≤ (l.map f).sum := by
  induction l with
  | nil => cases h
  | cons a l ih =>
    rw [List.map_cons, List.sum_cons]
    rcases List.mem_cons.1 h with rfl | h
    · omega
    · have := ih h
      omega
theorem ev_both {P Q : Nat → Prop} (h : ∃ K, ∀ k, K ≤ k → P k) (g : ∃ K, ∀ k, K ≤ k → Q k) : ∃ K, ∀ k, K ≤ k → P k ∧ Q k := by
  obtain ⟨K, h⟩ := h
  obtain ⟨K', g⟩ := g
  exact ⟨max K K', fun k hk => ⟨h k (by omega), g k (by omega)⟩⟩
theorem szk_list {α : Type} (d : α) (F : Nat → List α → Int → Option Int) (L : Nat → List α → Int → Int → Option Int) (E : α → Int → Option Int) (wt : α → Nat)
    (hF : ∀ k xs l, F k xs l = if wrap64 (l - (xs.length : Int)) < 0 then some (-1) else L k xs (wrap64 (l - (xs.length : Int))) 0)
    (hL : ∀ k xs l i, L (k + 1) xs l i = if i < (xs.length : Int) then (if 0 ≤ i then ((E (xs.getD i.toNat d) l).bind fun t => if t < 0 then some (-1) else L k xs t (wrap64 (i + 1))) else none) else some l)
    (xs : List α) (hn : xs.length ≤ 9223372036854775807) (hE : ∀ x ∈ xs, ∀ l, 0 ≤ l → l ≤ 1048576 → E x l = some (lft l (wt x))) (k : Nat) (hk : xs.length < k) (l : Int) (h0 : 0 ≤ l) (h1 : l ≤ 1048576) :
    F k xs l = some (lft l (xs.length + (xs.map wt).sum)) := by
  have loop : ∀ (n i k : Nat) (l : Int), xs.length - i = n → i ≤ xs.length → n < k → 0 ≤ l → l ≤ 1048576 → L k xs l i = some (lft l ((xs.drop i).map wt).sum) := by
    intro n
    induction n with
    | zero =>
      intro i k l a1 a2 a3 a4 a5
      obtain ⟨k, rfl⟩ : ∃ m, k = m + 1 := ⟨k - 1, by omega⟩
      rw [hL, if_neg (by omega), show i = xs.length by omega, List.drop_length]
      simp [lft, a4]
    | succ n ih =>
      intro i k l a1 a2 a3 a4 a5
      obtain ⟨k, rfl⟩ : ∃ m, k = m + 1 := ⟨k - 1, by omega⟩
      have hi : i < xs.length := by omega
      rw [hL, if_pos (by omega), if_pos (by omega), drop_cons_getD d hi, List.map_cons, List.sum_cons, Int.toNat_natCast, hE _ (getD_mem d hi) l a4 a5, Option.bind_some]
      by_cases hw : ((wt (xs.getD i d) : Nat) : Int) ≤ l
      · rw [lft_of_le hw, if_neg (by omega), wrap_succ hi hn, ih (i + 1) k _ (by omega) (by omega) (by omega) (by omega) (by omega)]
        congr 1
        by_cases hr : (((xs.drop (i + 1)).map wt).sum : Int) ≤ l - (wt (xs.getD i d) : Nat)
        · rw [lft_of_le hr, lft_of_le (by omega)]
          omega
        · rw [lft_of_gt hr, lft_of_gt (by omega)]
      · rw [lft_of_gt hw, if_pos (by omega), lft_of_gt (by omega)]
  rw [hF, wrap_id (x := l - (xs.length : Int)) (by omega) (by omega)]
  by_cases h : l - (xs.length : Int) < 0
  · rw [if_pos h, lft_of_gt (by omega)]
  · rw [if_neg h, show (0 : Int) = ((0 : Nat) : Int) from rfl, loop xs.length 0 k _ (by omega) (by omega) (by omega) (by omega) (by omega), List.drop_zero]
    congr 1
    by_cases hr : ((xs.map wt).sum : Int) ≤ l - (xs.length : Int)
    · rw [lft_of_le hr, lft_of_le (by omega)]
      omega
    · rw [lft_of_gt hr, lft_of_gt (by omega)]
theorem mapk_list {α β γ : Type} (d : α) (z : β) (F : Nat → List α → Option (List β)) (L : Nat → List α → List β → Int → Option (List β)) (E : α → Option γ) (mk : γ → β) (g : α → γ) (B : Nat)
    (hF : ∀ k xs, F k xs = if 0 ≤ (xs.length : Int) then (if ((xs.length : Int) : Int).toNat ≤ B then L k xs (List.replicate ((xs.length : Int) : Int).toNat z) 0 else none) else none)
    (hL : ∀ k xs ys i, L (k + 1) xs ys i = if i < (xs.length : Int) then (if 0 ≤ i then ((E (xs.getD i.toNat d)).bind fun b => if i < (ys.length : Int) then L k xs (ys.set i.toNat (mk b)) (wrap64 (i + 1)) else none) else none) else some ys)
    (xs : List α) (hn : xs.length ≤ B) (hB : B ≤ 9223372036854775807) (hE : ∀ x ∈ xs, E x = some (g x)) (k : Nat) (hk : xs.length < k) : F k xs = some (xs.map (fun x => mk (g x))) := by
  have loop : ∀ (n i k : Nat) (ys : List β), xs.length - i = n → i ≤ xs.length → ys.length = xs.length → n < k → L k xs ys i = some (ys.take i ++ (xs.drop i).map (fun x => mk (g x))) := by
    intro n
    induction n with
    | zero =>
      intro i k ys h1 h2 h3 h4
      obtain ⟨k, rfl⟩ : ∃ m, k = m + 1 := ⟨k - 1, by omega⟩
      rw [hL, if_neg (by omega), show i = xs.length by omega, List.drop_length, ← h3, List.take_length]
      simp
    | succ n ih =>
      intro i k ys h1 h2 h3 h4
      obtain ⟨k, rfl⟩ : ∃ m, k = m + 1 := ⟨k - 1, by omega⟩
      have hi : i < xs.length := by omega
      rw [hL, if_pos (by omega), if_pos (by omega), Int.toNat_natCast, hE _ (getD_mem d hi), Option.bind_some, if_pos (by omega), wrap_succ hi (by omega), ih (i + 1) k _ (by omega) (by omega) (by simpa using h3) (by omega)]
      congr 1
      rw [drop_cons_getD d hi, List.map_cons, List.take_succ_eq_append_getElem (by simp; omega)]
      simp [List.take_set_of_le]
  rw [hF, if_pos (by omega), if_pos (by simpa using hn), show (0 : Int) = ((0 : Nat) : Int) from rfl, loop xs.length 0 k _ (by omega) (by omega) (by simp) (by omega)]
  simp
theorem eqk_list {α : Type} (d : α) (F : Nat → List α → List α → Option Bool) (L : Nat → List α → List α → Int → Option Bool) (E : α → α → Option Bool)
    (hF : ∀ k xs ys, F k xs ys = if (xs.length : Int) = (ys.length : Int) then L k xs ys 0 else some false)
    (hL : ∀ k xs ys i, L (k + 1) xs ys i = if i < (xs.length : Int) then (if 0 ≤ i then (if i < (ys.length : Int) then ((E (xs.getD i.toNat d) (ys.getD i.toNat d)).bind fun t => if t = true then L k xs ys (wrap64 (i + 1)) else some false) else none) else none) else some true)
    (xs : List α) (hn : xs.length ≤ 9223372036854775807) (hE : ∀ x ∈ xs, E x x = some true) (k : Nat) (hk : xs.length < k) : F k xs xs = some true := by
  have loop : ∀ (n i k : Nat), xs.length - i = n → i ≤ xs.length → n < k → L k xs xs i = some true := by
    intro n
    induction n with
    | zero =>
      intro i k h1 h2 h3
      obtain ⟨k, rfl⟩ : ∃ m, k = m + 1 := ⟨k - 1, by omega⟩
      rw [hL, if_neg (by omega)]
    | succ n ih =>
      intro i k h1 h2 h3
      obtain ⟨k, rfl⟩ : ∃ m, k = m + 1 := ⟨k - 1, by omega⟩
      have hi : i < xs.length := by omega
      rw [hL, if_pos (by omega), if_pos (by omega), if_pos (by omega), Int.toNat_natCast, hE _ (getD_mem d hi), Option.bind_some, if_pos rfl, wrap_succ hi hn]
      exact ih (i + 1) k (by omega) (by omega) (by omega)
  rw [hF, if_pos rfl]
  exact loop xs.length 0 k (by omega) (by omega) (by omega)

end Go.Proofs.Ytapgfamppnhnmaa.ZFnExactAndAll
