/- Plain lemmas on what the functions of the law FnExactExpOk compute: numbers and lists alone. -/
import Derived.Test.YtmkllhkhiefbnaaPFnExactExpOkx0
import Derived.Test.YtmkllhkhiefbnaaPFnExactExpOkx1
import Derived.Test.YtmkllhkhiefbnaaPFnExactExpOkx2
import Derived.Test.YtmkllhkhiefbnaaPFnExactExpOkx3
import Derived.Test.YtmkllhkhiefbnaaPFnExactExpOkx4
import Derived.Test.YtmkllhkhiefbnaaPFnExactExpOkx5
import Derived.Test.YtmkllhkhiefbnaaPFnExactExpOkx6
import Derived.Test.YtmkllhkhiefbnaaOpen
import Derived.Test.YtmkllhkhiefbnaaZFnExactExpOk
namespace Go.Proofs.Ytmkllhkhiefbnaa.PFnExactExpOk
open Go.RowKit Go.Proofs.YtmkllhkhiefbnaaW.PrintWords Go.Proofs.YtmkllhkhiefbnaaW.PrintLast Go.Proofs.YtmkllhkhiefbnaaW.PrintMore Go.Proofs.YtmkllhkhiefbnaaOpen Go.Proofs.Ytmkllhkhiefbnaa.ZFnExactExpOk
set_option linter.unusedVariables false
set_option linter.unusedSimpArgs false
/-- What is left of the bound behind a text. -/
theorem szValue_is (a b : Int) (s : ByteArray) (l : Int) (h0 : 0 ≤ l) (h1 : l ≤ 1048576) (hs : s.size ≤ 9223372036854775807) : laws_szValue.f a b s l = some (lft l s.size) := by
  unfold laws_szValue.f
  rw [wrap_id (x := l - (s.size : Int)) (by omega) (by omega)]
  by_cases h : l - (s.size : Int) < 0
  · rw [if_pos h, lft_of_gt (by omega)]
  · rw [if_neg h, lft_of_le (by omega)]
/-- Is a value right. -/
def okV (a b : Int) (s : List UInt8) : Bool := if a = 0 then (b == 0 && s.isEmpty) else if a = 1 then s.isEmpty else if a = 2 then (decide (0 ≤ b ∧ b ≤ 1) && s.isEmpty) else if a = 3 then (b == 0 && decide (s.length ≤ 100)) else false
theorem specValueOk_is (a b : Int) (s : ByteArray) : spec_ValueOk.f a b s = some (okV a b s.data.toList) := by
  unfold spec_ValueOk.f okV spec_l01In.f
  have he : (s.toList == ([] : List UInt8)) = s.data.toList.isEmpty := by rw [toList_data]; cases s.data.toList <;> rfl
  rw [he, size_data]
  by_cases h0 : a = 0
  · by_cases hb : b = 0 <;> simp [h0, hb]
  · by_cases h1 : a = 1
    · simp [h1]
    · by_cases h2 : a = 2
      · by_cases hb : 0 ≤ b
        · by_cases hb' : b ≤ 1 <;> simp [h2, hb, hb']
        · simp [h2, hb]
      · by_cases h3 : a = 3
        · by_cases hb : b = 0
          · simp [h3, hb]
            omega
          · simp [h3, hb]
        · simp [h0, h1, h2, h3]
theorem implValueOk_is (a b : Int) (s : ByteArray) : impl_ValueOk.f a b s = some (okV a b s.data.toList) := specValueOk_is a b s
/-! #### expressions -/
def okEN : Nat → S26 → Prop
  | 0, _ => False
  | n + 1, x => x.f2.f2.size ≤ 9223372036854775807 ∧ x.f3.size ≤ 9223372036854775807 ∧ x.f4.length ≤ 9223372036854775807 ∧ ∀ y ∈ x.f4, okEN n y
def wtEN : Nat → S26 → Nat
  | 0, _ => 0
  | n + 1, x => x.f2.f2.size + (x.f3.size + (x.f4.length + (x.f4.map (wtEN n)).sum))
theorem szExp_is : ∀ (n : Nat) (x : S26), okEN n x → ∃ K, ∀ k, K ≤ k → ∀ l, 0 ≤ l → l ≤ 1048576 → laws_szExp.f k x.f0 x.f1 x.f2.f0 x.f2.f1 x.f2.f2 x.f3 x.f4 l = some (lft l (wtEN n x))
  | 0, _, h => h.elim
  | n + 1, x, h => by
    obtain ⟨h1, h2, h3, h4⟩ := h
    obtain ⟨K, hK⟩ := ev_all (xs := x.f4) (P := fun k y => ∀ l, 0 ≤ l → l ≤ 1048576 → laws_szExp.f k y.f0 y.f1 y.f2.f0 y.f2.f1 y.f2.f2 y.f3 y.f4 l = some (lft l (wtEN n y))) fun y hy => szExp_is n y (h4 y hy)
    refine ⟨max K (x.f4.length + 1) + 1, fun k hk l h0 h5 => ?_⟩
    obtain ⟨k, rfl⟩ : ∃ m, k = m + 1 := ⟨k - 1, by omega⟩
    show (laws_szValue.f _ _ _ l).bind _ = _
    rw [szValue_is _ _ _ l h0 h5 h1, Option.bind_some]
    by_cases a : (x.f2.f2.size : Int) ≤ l
    · rw [lft_of_le a, if_neg (by omega), wrap_id (x := l - (x.f2.f2.size : Int) - (x.f3.size : Int)) (by omega) (by omega)]
      by_cases b : l - (x.f2.f2.size : Int) - (x.f3.size : Int) < 0
      · rw [if_pos b, lft_of_gt (by unfold wtEN; omega)]
      · rw [if_neg b, szk_list z26 (laws_szExpS.f (laws_szExp.f k)) (laws_szExpS.l0 (laws_szExp.f k)) (fun y l => laws_szExp.f k y.f0 y.f1 y.f2.f0 y.f2.f1 y.f2.f2 y.f3 y.f4 l) (wtEN n) (fun _ _ _ => rfl) (fun _ _ _ _ => rfl) x.f4 h3 (fun y hy l a b => hK k (by omega) y hy l a b) k (by omega) _ (by omega) (by omega), Option.bind_some]
        by_cases c : ((x.f4.length + (x.f4.map (wtEN n)).sum : Nat) : Int) ≤ l - (x.f2.f2.size : Int) - (x.f3.size : Int)
        · rw [lft_of_le c, if_neg (by omega), lft_of_le (by unfold wtEN; omega)]
          congr 1
          unfold wtEN
          omega
        · rw [lft_of_gt c, if_pos (by omega), lft_of_gt (by unfold wtEN; omega)]
    · rw [lft_of_gt a, if_pos (by omega), lft_of_gt (by unfold wtEN; omega)]
theorem wtE_kid {n : Nat} {x y : S26} {b : Nat} (h : wtEN (n + 1) x ≤ b) (hy : y ∈ x.f4) : wtEN n y ≤ b := by
  have := sum_le_of_mem0 (wtEN n) hy
  unfold wtEN at h
  omega
theorem wtE_len {n : Nat} {x : S26} {b : Nat} (h : wtEN (n + 1) x ≤ b) : x.f4.length ≤ b := by
  unfold wtEN at h
  omega
def toEN : Nat → S26 → S32
  | 0, _ => z32
  | n + 1, x => ⟨x.f0, x.f1, ⟨x.f2.f0, x.f2.f1, x.f2.f2⟩, x.f3, x.f4.map (toEN n)⟩
theorem toExp_is : ∀ (n : Nat) (x : S26), okEN n x → wtEN n x ≤ 1048576 → ∃ K, ∀ k, K ≤ k → laws_toExp.f k x.f0 x.f1 x.f2.f0 x.f2.f1 x.f2.f2 x.f3 x.f4 = some ((toEN n x).f0, (toEN n x).f1, (toEN n x).f2.f0, (toEN n x).f2.f1, (toEN n x).f2.f2, (toEN n x).f3, (toEN n x).f4)
  | 0, _, h, _ => h.elim
  | n + 1, x, h, hw => by
    obtain ⟨_, _, _, h4⟩ := h
    have hl := wtE_len hw
    obtain ⟨K, hK⟩ := ev_all (xs := x.f4) (P := fun k y => laws_toExp.f k y.f0 y.f1 y.f2.f0 y.f2.f1 y.f2.f2 y.f3 y.f4 = some ((toEN n y).f0, (toEN n y).f1, (toEN n y).f2.f0, (toEN n y).f2.f1, (toEN n y).f2.f2, (toEN n y).f3, (toEN n y).f4)) fun y hy => toExp_is n y (h4 y hy) (wtE_kid hw hy)
    refine ⟨max K (x.f4.length + 1) + 1, fun k hk => ?_⟩
    obtain ⟨k, rfl⟩ : ∃ m, k = m + 1 := ⟨k - 1, by omega⟩
    show ((laws_toExpS.f (laws_toExp.f k) k x.f4).bind _) = _
    rw [mapk_list z26 z32 (laws_toExpS.f (laws_toExp.f k)) (laws_toExpS.l0 (laws_toExp.f k)) (fun y => laws_toExp.f k y.f0 y.f1 y.f2.f0 y.f2.f1 y.f2.f2 y.f3 y.f4) (fun bt => (⟨bt.1, bt.2.1, (⟨bt.2.2.1, bt.2.2.2.1, bt.2.2.2.2.1⟩ : S29), bt.2.2.2.2.2.1, bt.2.2.2.2.2.2⟩ : S32)) (fun y => ((toEN n y).f0, (toEN n y).f1, (toEN n y).f2.f0, (toEN n y).f2.f1, (toEN n y).f2.f2, (toEN n y).f3, (toEN n y).f4)) 3198579280802 (fun _ _ => rfl) (fun _ _ _ _ => rfl) x.f4 (by omega) (by omega) (fun y hy => hK k (by omega) y hy) k (by omega), Option.bind_some]
    have e : toEN (n + 1) x = ⟨x.f0, x.f1, ⟨x.f2.f0, x.f2.f1, x.f2.f2⟩, x.f3, x.f4.map (toEN n)⟩ := by simp only [toEN]
    rw [e]
    have hm : ∀ y : S32, (⟨y.f0, y.f1, (⟨y.f2.f0, y.f2.f1, y.f2.f2⟩ : S29), y.f3, y.f4⟩ : S32) = y := fun y => by cases y; rfl
    exact congrArg (fun l => some (x.f0, x.f1, x.f2.f0, x.f2.f1, x.f2.f2, x.f3, l)) (List.map_congr_left fun y _ => hm (toEN n y))
/-- All lists of kids are short, so far down. -/
def shortI : Nat → S32 → Prop
  | 0, _ => True
  | m + 1, y => y.f4.length ≤ 1048576 ∧ ∀ z ∈ y.f4, shortI m z
theorem short_z : ∀ m, shortI m z32
  | 0 => trivial
  | _ + 1 => ⟨by simp [z32], fun z hz => by simp [z32] at hz⟩
theorem toE_short : ∀ (n m : Nat) (x : S26), wtEN n x ≤ 1048576 → shortI m (toEN n x)
  | 0, m, _, _ => short_z m
  | _ + 1, 0, _, _ => trivial
  | n + 1, m + 1, x, h => by
    refine ⟨?_, fun z hz => ?_⟩
    · show (x.f4.map (toEN n)).length ≤ 1048576
      rw [List.length_map]
      exact wtE_len h
    · obtain ⟨u, hu, rfl⟩ := List.mem_map.1 hz
      exact toE_short n m u (wtE_kid h hu)
theorem eqExp_refl : ∀ (n : Nat) (x : S26), okEN n x → wtEN n x ≤ 1048576 → ∃ K, ∀ k, K ≤ k → laws_eqExp.f k (toEN n x).f0 (toEN n x).f1 (toEN n x).f2.f0 (toEN n x).f2.f1 (toEN n x).f2.f2 (toEN n x).f3 (toEN n x).f4 (toEN n x).f0 (toEN n x).f1 (toEN n x).f2.f0 (toEN n x).f2.f1 (toEN n x).f2.f2 (toEN n x).f3 (toEN n x).f4 = some true
  | 0, _, h, _ => h.elim
  | n + 1, x, h, hw => by
    obtain ⟨_, _, _, h4⟩ := h
    have hl := wtE_len hw
    obtain ⟨K, hK⟩ := ev_all (xs := x.f4) (P := fun k y => laws_eqExp.f k (toEN n y).f0 (toEN n y).f1 (toEN n y).f2.f0 (toEN n y).f2.f1 (toEN n y).f2.f2 (toEN n y).f3 (toEN n y).f4 (toEN n y).f0 (toEN n y).f1 (toEN n y).f2.f0 (toEN n y).f2.f1 (toEN n y).f2.f2 (toEN n y).f3 (toEN n y).f4 = some true) fun y hy => eqExp_refl n y (h4 y hy) (wtE_kid hw hy)
    refine ⟨max K (x.f4.length + 1) + 1, fun k hk => ?_⟩
    obtain ⟨k, rfl⟩ : ∃ m, k = m + 1 := ⟨k - 1, by omega⟩
    have e := eqk_list z32 (laws_eqExpS.f (laws_eqExp.f k)) (laws_eqExpS.l0 (laws_eqExp.f k)) (fun y z => laws_eqExp.f k y.f0 y.f1 y.f2.f0 y.f2.f1 y.f2.f2 y.f3 y.f4 z.f0 z.f1 z.f2.f0 z.f2.f1 z.f2.f2 z.f3 z.f4) (fun _ _ _ => rfl) (fun _ _ _ _ => rfl) (x.f4.map (toEN n)) (by rw [List.length_map]; omega) (fun y hy => by
      obtain ⟨u, hu, rfl⟩ := List.mem_map.1 hy
      exact hK k (by omega) u hu) k (by rw [List.length_map]; omega)
    simp [laws_eqExp.f, laws_eqValue.f, toEN, e]
theorem l03Has_is (xs : List ByteArray) (s : ByteArray) (hn : xs.length ≤ 9223372036854775807) : Ev (fun k => spec_l03Has.f k xs s) (xs.any fun x => x.toList == s.toList) := by
  have h : ∀ (n i : Nat), xs.length - i = n → i ≤ xs.length → Ev (fun k => spec_l03Has.l0 k xs s (i : Int)) ((xs.drop i).any fun x => x.toList == s.toList) := by
    intro n
    induction n with
    | zero =>
      intro i h1 h2
      refine Ev.step (fun k => rfl) (ev_if_neg (by omega) (ev_conv (ev_some fun _ => rfl) ?_))
      rw [show i = xs.length by omega, List.drop_length]
      rfl
    | succ n ih =>
      intro i h1 h2
      have hi : i < xs.length := by omega
      refine Ev.step (fun k => rfl) (ev_if_pos (by omega) (ev_if_pos (by omega) ?_))
      rw [drop_cons_getD ByteArray.empty hi, List.any_cons]
      show Ev (fun k => if (xs.getD (i : Int).toNat ByteArray.empty).toList = s.toList then some true else spec_l03Has.l0 k xs s (wrap64 ((i : Int) + 1))) _
      rw [Int.toNat_natCast]
      by_cases e : (xs.getD i ByteArray.empty).toList = s.toList
      · exact ev_if_pos e (ev_conv (ev_some fun _ => rfl) (by rw [e]; simp))
      · refine ev_if_neg e ?_
        rw [wrap_succ hi hn]
        exact ev_conv (ih (i + 1) (by omega) (by omega)) (by rw [show ((xs.getD i ByteArray.empty).toList == s.toList) = false from beq_eq_false_iff_ne.mpr e, Bool.false_or])
  exact ev_conv (h xs.length 0 (by omega) (by omega)) (by rw [List.drop_zero])
theorem containsS_is (xs : List ByteArray) (s : ByteArray) (hn : xs.length ≤ 9223372036854775807) : Ev (fun k => slices_Contains_string_string.f k xs s) (xs.any fun x => x.toList == s.toList) := by
  have h : ∀ (n i : Nat), xs.length - i = n → i ≤ xs.length → ∃ j, Ev (fun k => slices_Index_string_string.l0 k xs s (xs.length : Int) (i : Int)) j ∧ decide (j ≥ 0) = (xs.drop i).any fun x => x.toList == s.toList := by
    intro n
    induction n with
    | zero =>
      intro i h1 h2
      refine ⟨-1, Ev.step (fun k => rfl) (ev_if_neg (by omega) (ev_some fun _ => rfl)), ?_⟩
      rw [show i = xs.length by omega, List.drop_length]
      rfl
    | succ n ih =>
      intro i h1 h2
      have hi : i < xs.length := by omega
      by_cases e : s.toList = (xs.getD i ByteArray.empty).toList
      · refine ⟨i, Ev.step (fun k => rfl) (ev_if_pos (by omega) (ev_if_pos (by omega) (ev_if_pos (by omega) ?_))), ?_⟩
        · show Ev (fun k => if s.toList = (xs.getD (i : Int).toNat ByteArray.empty).toList then some (i : Int) else slices_Index_string_string.l0 k xs s (xs.length : Int) (wrap64 ((i : Int) + 1))) _
          rw [Int.toNat_natCast]
          exact ev_if_pos e (ev_some fun _ => rfl)
        · rw [drop_cons_getD ByteArray.empty hi, List.any_cons]
          rw [← e]
          simp
      · obtain ⟨j, hj, hd⟩ := ih (i + 1) (by omega) (by omega)
        refine ⟨j, Ev.step (fun k => rfl) (ev_if_pos (by omega) (ev_if_pos (by omega) (ev_if_pos (by omega) ?_))), ?_⟩
        · show Ev (fun k => if s.toList = (xs.getD (i : Int).toNat ByteArray.empty).toList then some (i : Int) else slices_Index_string_string.l0 k xs s (xs.length : Int) (wrap64 ((i : Int) + 1))) _
          rw [Int.toNat_natCast, wrap_succ hi hn]
          exact ev_if_neg e hj
        · rw [hd, drop_cons_getD ByteArray.empty hi, List.any_cons]
          rw [show ((xs.getD i ByteArray.empty).toList == s.toList) = false from beq_eq_false_iff_ne.mpr fun h => e h.symm, Bool.false_or]
  obtain ⟨j, hj, hd⟩ := h xs.length 0 (by omega) (by omega)
  rw [List.drop_zero] at hd
  exact Ev.congr (fun k => rfl) (Ev.bind hj (f := fun k t => some (decide (t ≥ 0))) (ev_conv (ev_some fun _ => rfl) hd))
/-- The texts of the operations. -/
def opsL : List ByteArray := [(⟨#[43]⟩ : ByteArray), (⟨#[45]⟩ : ByteArray), (⟨#[42]⟩ : ByteArray), (⟨#[47]⟩ : ByteArray), (⟨#[61]⟩ : ByteArray), (⟨#[60]⟩ : ByteArray), (⟨#[126]⟩ : ByteArray), (⟨#[97, 110, 100]⟩ : ByteArray), (⟨#[111, 114]⟩ : ByteArray)]
def isOpB (op : ByteArray) : Bool := opsL.any fun x => x.toList == op.toList
/-- An expression's own part is right, and so many kids are asked. -/
def locE (a n v0 v1 : Int) (v2 op : ByteArray) (c : Nat) : Bool :=
  if a = 0 then decide (0 ≤ n ∧ n ≤ 11) && nullB v0 v1 v2 && (op.toList == ([] : List UInt8)) && c == 0
  else if a = 1 then okV v0 v1 v2.data.toList && (n == 0) && (op.toList == ([] : List UInt8)) && c == 0
  else if a = 2 then isOpB op && (n == 0) && nullB v0 v1 v2 && c == 2
  else if a = 3 ∨ a = 4 then (n == 0) && nullB v0 v1 v2 && (op.toList == ([] : List UInt8)) && c == 1
  else false
/-- An expression is right, and nothing stands more than m - 1 below it. -/
def okE : Nat → S32 → Bool
  | 0, _ => false
  | m + 1, y => locE y.f0 y.f1 y.f2.f0 y.f2.f1 y.f2.f2 y.f3 y.f4.length && y.f4.all (okE m)
theorem isColumn_is (n : Int) : impl_isColumn.f n = some (decide (0 ≤ n ∧ n ≤ 11)) := by
  unfold impl_isColumn.f impl_within.f
  by_cases h : 0 ≤ n <;> simp [h]
theorem isOp_is (op : ByteArray) : Ev (fun k => impl_isOp.f k op) (isOpB op) :=
  Ev.congr (fun k => rfl) (Ev.bind (containsS_is opsL op (by decide)) (f := fun k t => some t) (ev_some fun _ => rfl))
theorem allO_evs {α : Type} {f : Nat → α → Option Bool} {g : α → Bool} : ∀ {xs : List α}, (∀ x ∈ xs, Ev (fun k => f k x) (g x)) → Ev (fun k => allO (f k) xs) (xs.all g)
  | [], _ => ev_some fun _ => rfl
  | x :: xs, h => by
    refine Ev.congr (fun k => rfl) (Ev.bind (h x (by simp)) (f := fun k t => if t = true then allO (f k) xs else some false) ?_)
    cases hx : g x with
    | true => exact ev_if_pos rfl (ev_conv (allO_evs fun y hy => h y (by simp [hy])) (by simp [hx]))
    | false => exact ev_if_neg (by simp) (ev_conv (ev_some fun _ => rfl) (by simp [hx]))
theorem loc_end (b : Bool) (c : Nat) (kn : Int) (m : Nat) (h : kn = m) : (if b = true then decide ((c : Int) = kn) else false) = (b && c == m) := by
  subst h
  cases b with
  | false => rfl
  | true =>
    rw [if_pos rfl, Bool.true_and, Bool.eq_iff_iff, decide_eq_true_iff, beq_iff_eq]
    omega
theorem isExpS_is (a n v0 v1 : Int) (v2 op : ByteArray) : ∃ kn rt, Ev (fun k => isExpS k a n v0 v1 v2 op) (kn, rt) ∧ ∀ c : Nat, (if rt = true then decide ((c : Int) = kn) else false) = locE a n v0 v1 v2 op c := by
  unfold isExpS locE
  by_cases a0 : a = 0
  · exact ⟨0, _, ev_if_pos a0 (ev_bind0 (isColumn_is n) (ev_some fun _ => rfl)), fun c => by rw [if_pos a0]; exact loc_end _ c 0 0 rfl⟩
  by_cases a1 : a = 1
  · exact ⟨0, _, ev_if_neg a0 (ev_if_pos a1 (ev_bind0 (implValueOk_is v0 v1 v2) (ev_some fun _ => rfl))), fun c => by rw [if_neg a0, if_pos a1]; exact loc_end _ c 0 0 rfl⟩
  by_cases a2 : a = 2
  · exact ⟨2, _, ev_if_neg a0 (ev_if_neg a1 (ev_if_pos a2 (Ev.bind (isOp_is op) (ev_some fun _ => rfl)))), fun c => by rw [if_neg a0, if_neg a1, if_pos a2]; exact loc_end _ c 2 2 rfl⟩
  by_cases a3 : a = 3 ∨ a = 4
  · exact ⟨1, _, ev_if_neg a0 (ev_if_neg a1 (ev_if_neg a2 (ev_if_pos a3 (ev_some fun _ => rfl)))), fun c => by rw [if_neg a0, if_neg a1, if_neg a2, if_pos a3]; exact loc_end _ c 1 1 rfl⟩
  · exact ⟨0, false, ev_if_neg a0 (ev_if_neg a1 (ev_if_neg a2 (ev_if_neg a3 (ev_some fun _ => rfl)))), fun c => by simp [a0, a1, a2, a3]⟩
theorem impl_isExp_is : ∀ (m : Nat) (y : S32) (d : Int), m ≤ 13 → d = 13 - m → shortI m y → Ev (fun k => impl_isExp.f k y.f0 y.f1 y.f2.f0 y.f2.f1 y.f2.f2 y.f3 y.f4 d) (okE m y) := by
  intro m
  induction m with
  | zero =>
    intro y d hm hd _
    obtain ⟨kn, rt, hs, _⟩ := isExpS_is y.f0 y.f1 y.f2.f0 y.f2.f1 y.f2.f2 y.f3
    refine Ev.step (fun k => rfl) (Ev.bind hs ?_)
    cases rt with
    | false => exact ev_if_neg (by simp) (ev_some fun _ => rfl)
    | true => exact ev_if_pos rfl (ev_if_neg (by omega) (ev_some fun _ => rfl))
  | succ m ih =>
    intro y d hm hd hy
    obtain ⟨kn, rt, hs, hl⟩ := isExpS_is y.f0 y.f1 y.f2.f0 y.f2.f1 y.f2.f2 y.f3
    have hl := hl y.f4.length
    refine Ev.step (fun k => rfl) (Ev.bind hs ?_)
    cases rt with
    | false => exact ev_if_neg (by simp) (ev_conv (ev_some fun _ => rfl) (by simp only [okE]; rw [← hl]; simp))
    | true =>
      rw [if_pos rfl] at hl
      refine ev_if_pos rfl (ev_if_pos (by omega) ?_)
      by_cases e : (y.f4.length : Int) = kn
      · refine ev_if_pos e (ev_conv (allO_evs (g := okE m) fun x hx => ?_) (by simp only [okE]; rw [← hl]; simp [e]))
        rw [wrap_id (x := d + 1) (by omega) (by omega)]
        exact ih x (d + 1) (by omega) (by omega) (hy.2 x hx)
      · exact ev_if_neg e (ev_conv (ev_some fun _ => rfl) (by simp only [okE]; rw [← hl]; simp [e]))
theorem l03In_is (a b c : Int) : spec_l01In.f a b c = some (decide (b ≤ a ∧ a ≤ c)) := by
  unfold spec_l01In.f
  by_cases h : b ≤ a <;> simp [h]
theorem l03j_is (a n v0 v1 : Int) (v2 op : ByteArray) (l : List S32) (hl : l.length ≤ 1048576) : Ev (fun k => spec_l03Right.j1 k (if n = 0 then nullB v0 v1 v2 else false) a n v0 v1 v2 op l) (locE a n v0 v1 v2 op l.length) := by
  have hc0 : ((l.length : Int) == 0) = (l.length == 0) := by rw [Bool.eq_iff_iff, beq_iff_eq, beq_iff_eq]; omega
  have hc1 : ((l.length : Int) == 1) = (l.length == 1) := by rw [Bool.eq_iff_iff, beq_iff_eq, beq_iff_eq]; omega
  unfold locE
  by_cases a0 : a = 0
  · rw [if_pos a0]
    refine Ev.step (fun k => rfl) (ev_if_pos a0 (ev_bind0 (l03In_is n 0 11) ?_))
    cases decide (0 ≤ n ∧ n ≤ 11) with
    | false => exact ev_if_neg (by simp) (ev_conv (ev_some fun _ => rfl) (by simp))
    | true =>
      refine ev_if_pos rfl ?_
      cases hz : nullB v0 v1 v2 with
      | false => exact ev_if_neg (by have := hz; unfold nullB at this; rw [this]; simp) (ev_conv (ev_some fun _ => rfl) (by simp))
      | true =>
        refine ev_if_pos hz ?_
        by_cases e : op.toList = ([] : List UInt8)
        · exact ev_if_pos e (ev_conv (ev_some fun _ => rfl) (by rw [hc0]; simp [e]))
        · exact ev_if_neg e (ev_conv (ev_some fun _ => rfl) (by simp [e]))
  rw [if_neg a0]
  by_cases a1 : a = 1
  · rw [if_pos a1]
    refine Ev.step (fun k => rfl) (ev_if_neg a0 (ev_if_pos a1 (ev_bind0 (specValueOk_is v0 v1 v2) ?_)))
    cases okV v0 v1 v2.data.toList with
    | false => exact ev_if_neg (by simp) (ev_conv (ev_some fun _ => rfl) (by simp))
    | true =>
      refine ev_if_pos rfl ?_
      by_cases e0 : n = 0
      · refine ev_if_pos e0 ?_
        by_cases e : op.toList = ([] : List UInt8)
        · exact ev_if_pos e (ev_conv (ev_some fun _ => rfl) (by rw [hc0]; simp [e, e0]))
        · exact ev_if_neg e (ev_conv (ev_some fun _ => rfl) (by simp [e]))
      · exact ev_if_neg e0 (ev_conv (ev_some fun _ => rfl) (by simp [e0]))
  rw [if_neg a1]
  have hp : (if n = 0 then nullB v0 v1 v2 else false) = ((n == 0) && nullB v0 v1 v2) := by by_cases e : n = 0 <;> simp [e]
  rw [hp]
  by_cases a2 : a = 2
  · rw [if_pos a2]
    refine Ev.step (fun k => rfl) (ev_if_neg a0 (ev_if_neg a1 (ev_if_pos a2 ?_)))
    cases hq : ((n == 0) && nullB v0 v1 v2) with
    | false => exact ev_if_neg (by simp) (ev_conv (ev_some fun _ => rfl) (by rw [Bool.and_assoc (isOpB op), hq]; simp))
    | true =>
      refine ev_if_pos rfl ?_
      by_cases e : (l.length : Int) = 2
      · refine ev_if_pos e (ev_conv (Ev.bind (l03Has_is opsL op (by decide)) (f := fun k t => some t) (ev_some fun _ => rfl)) ?_)
        rw [Bool.and_assoc (isOpB op), hq, show l.length = 2 by omega]
        simp [isOpB]
      · exact ev_if_neg e (ev_conv (ev_some fun _ => rfl) (by rw [show (l.length == 2) = false from beq_eq_false_iff_ne.mpr (by omega)]; simp))
  rw [if_neg a2]
  by_cases a3 : a = 3
  · rw [if_pos (Or.inl a3)]
    refine Ev.step (fun k => rfl) (ev_if_neg a0 (ev_if_neg a1 (ev_if_neg a2 (ev_if_pos a3 ?_))))
    cases hq : ((n == 0) && nullB v0 v1 v2) with
    | false => exact ev_if_neg (by simp) (ev_conv (ev_some fun _ => rfl) (by simp))
    | true =>
      refine ev_if_pos rfl ?_
      by_cases e : op.toList = ([] : List UInt8)
      · exact ev_if_pos e (ev_conv (ev_some fun _ => rfl) (by rw [hc1]; simp [e]))
      · exact ev_if_neg e (ev_conv (ev_some fun _ => rfl) (by simp [e]))
  by_cases a4 : a = 4
  · rw [if_pos (Or.inr a4)]
    refine Ev.step (fun k => rfl) (ev_if_neg a0 (ev_if_neg a1 (ev_if_neg a2 (ev_if_neg a3 (ev_if_pos a4 ?_)))))
    cases hq : ((n == 0) && nullB v0 v1 v2) with
    | false => exact ev_if_neg (by simp) (ev_conv (ev_some fun _ => rfl) (by simp))
    | true =>
      refine ev_if_pos rfl ?_
      by_cases e : op.toList = ([] : List UInt8)
      · exact ev_if_pos e (ev_conv (ev_some fun _ => rfl) (by rw [hc1]; simp [e]))
      · exact ev_if_neg e (ev_conv (ev_some fun _ => rfl) (by simp [e]))
  · rw [if_neg (by omega)]
    exact Ev.step (fun k => rfl) (ev_if_neg a0 (ev_if_neg a1 (ev_if_neg a2 (ev_if_neg a3 (ev_if_neg a4 (ev_some fun _ => rfl))))))
theorem spec_l03Right_is : ∀ (m : Nat) (y : S32) (d : Int), m ≤ 1000 → d = (m : Int) - 1 → shortI m y → Ev (fun k => spec_l03Right.f k y.f0 y.f1 y.f2.f0 y.f2.f1 y.f2.f2 y.f3 y.f4 d) (okE m y) := by
  intro m
  induction m with
  | zero =>
    intro y d hm hd _
    exact Ev.step (fun k => rfl) (ev_if_pos (by omega) (ev_some fun _ => rfl))
  | succ m ih =>
    intro y d hm hd hy
    obtain ⟨hl, hk⟩ := hy
    refine Ev.step (fun k => rfl) (ev_if_neg (by omega) ?_)
    have fin : ∀ r : Bool, (r = true ↔ locE y.f0 y.f1 y.f2.f0 y.f2.f1 y.f2.f2 y.f3 y.f4.length = true) → Ev (fun k => spec_l03Right.l0 k d (y.f4.length : Int) y.f0 y.f1 y.f2.f0 y.f2.f1 y.f2.f2 y.f3 y.f4) r := by
      intro r hr
      have e : r = locE y.f0 y.f1 y.f2.f0 y.f2.f1 y.f2.f2 y.f3 y.f4.length := by rw [Bool.eq_iff_iff]; exact hr
      rw [e]
      refine Ev.step (fun k => rfl) (ev_if_neg (by omega) ?_)
      have j := l03j_is y.f0 y.f1 y.f2.f0 y.f2.f1 y.f2.f2 y.f3 y.f4 hl
      by_cases e0 : y.f1 = 0
      · rw [if_pos e0] at j
        exact ev_if_pos e0 j
      · rw [if_neg e0] at j
        exact ev_if_neg e0 j
    refine all_loop y.f4.length (fun k i => spec_l03Right.l0 k d i y.f0 y.f1 y.f2.f0 y.f2.f1 y.f2.f2 y.f3 y.f4) (fun j => okE m (y.f4.getD j z32) = true) (locE y.f0 y.f1 y.f2.f0 y.f2.f1 y.f2.f2 y.f3 y.f4.length = true) fin ?_ (okE (m + 1) y) ?_
    · intro i hi r hg hb
      refine Ev.step (fun k => rfl) (ev_if_pos (by omega) (ev_if_pos (by omega) ?_))
      have e := ih (y.f4.getD i z32) (wrap64 (d - 1)) (by omega) (by rw [wrap_id (by omega) (by omega)]; omega) (hk _ (getD_mem _ hi))
      refine Ev.bind (a := okE m (y.f4.getD i z32)) e ?_
      cases ho : okE m (y.f4.getD i z32) with
      | true =>
        refine ev_if_pos rfl ?_
        rw [wrap_succ hi (by omega)]
        exact hg ho
      | false => exact ev_if_neg (by simp) (ev_conv (ev_some fun _ => rfl) (hb fun h => by rw [ho] at h; cases h).symm)
    · rw [forall_getD z32 (p := fun x => okE m x = true)]
      simp only [okE, Bool.and_eq_true, List.all_eq_true]
      exact And.comm
theorem impl_expOk_is (y : S32) (h : shortI 13 y) : Ev (fun k => impl_ExpOk.f k y.f0 y.f1 y.f2.f0 y.f2.f1 y.f2.f2 y.f3 y.f4) (okE 13 y) :=
  Ev.congr (fun k => rfl) (Ev.bind (impl_isExp_is 13 y 0 (by omega) (by omega) h) (f := fun k t => some t) (ev_some fun _ => rfl))
theorem spec_expOk_is (y : S32) (h : shortI 13 y) : Ev (fun k => spec_ExpOk.f k y.f0 y.f1 y.f2.f0 y.f2.f1 y.f2.f2 y.f3 y.f4) (okE 13 y) :=
  Ev.congr (fun k => rfl) (Ev.bind (spec_l03Right_is 13 y 12 (by omega) (by omega) h) (f := fun k t => some t) (ev_some fun _ => rfl))
end Go.Proofs.Ytmkllhkhiefbnaa.PFnExactExpOk
