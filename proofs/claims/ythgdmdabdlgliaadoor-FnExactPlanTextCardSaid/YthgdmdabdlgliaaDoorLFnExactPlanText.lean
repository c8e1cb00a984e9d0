/- Plain lemmas on what the functions of the law FnExactPlanText compute: numbers and lists alone. -/
import Derived.Test.YthgdmdabdlgliaaDoorPFnExactPlanTextx0
import Derived.Test.YthgdmdabdlgliaaDoorPFnExactPlanTextx1
import Derived.Test.YthgdmdabdlgliaaDoorPFnExactPlanTextx2
import Derived.Test.YthgdmdabdlgliaaDoorPFnExactPlanTextx3
import Derived.Test.YthgdmdabdlgliaaDoorPFnExactPlanTextx4
import Derived.Test.YthgdmdabdlgliaaDoorPFnExactPlanTextx5
import Derived.Test.YthgdmdabdlgliaaDoorPFnExactPlanTextx6
import Derived.Test.YthgdmdabdlgliaaDoorPFnExactPlanTextx7
import Derived.Test.YthgdmdabdlgliaaDoorPFnExactPlanTextx8
import Derived.Test.YthgdmdabdlgliaaDoorPFnExactPlanTextx9
import Derived.Test.YthgdmdabdlgliaaDoorPFnExactPlanTextx10
import Derived.Test.YthgdmdabdlgliaaDoorPFnExactPlanTextx11
import Derived.Test.YthgdmdabdlgliaaDoorPFnExactPlanTextx12
import Derived.Test.YthgdmdabdlgliaaDoorPFnExactPlanTextx13
import Derived.Test.YthgdmdabdlgliaaDoorOpen
import Derived.Test.YthgdmdabdlgliaaDoorZFnExactPlanText
namespace Go.Proofs.YthgdmdabdlgliaaDoor.PFnExactPlanText
open Go.RowKit Go.Proofs.YthgdmdabdlgliaaDoorW.PrintWords Go.Proofs.YthgdmdabdlgliaaDoorW.PrintLast Go.Proofs.YthgdmdabdlgliaaDoorW.PrintMore Go.Proofs.YthgdmdabdlgliaaDoorOpen Go.Proofs.YthgdmdabdlgliaaDoor.ZFnExactPlanText
set_option linter.unusedVariables false
set_option linter.unusedSimpArgs false
/-- What is left of the bound behind a text. -/
theorem szValue_is (a b : Int) (s : ByteArray) (l : Int) (h0 : 0 ≤ l) (h1 : l ≤ 1048576) (hs : s.size ≤ 9223372036854775807) : laws_szValue.f a b s l = some (lft l s.size) := by
  unfold laws_szValue.f
  rw [wrap_id (x := l - (s.size : Int)) (by omega) (by omega)]
  by_cases h : l - (s.size : Int) < 0
  · rw [if_pos h, lft_of_gt (by omega)]
  · rw [if_neg h, lft_of_le (by omega)]
/-- Is a value right. -/
def okV (a b : Int) (s : List UInt8) : Bool := if a = 0 then (b == 0 && s.isEmpty) else if a = 1 then s.isEmpty else if a = 2 then (decide (0 ≤ b ∧ b ≤ 1) && s.isEmpty) else if a = 3 then (b == 0 && decide (s.length ≤ 100)) else false
theorem specValueOk_is (a b : Int) (s : ByteArray) : spec_ValueOk.f a b s = some (okV a b s.data.toList) := by
  unfold spec_ValueOk.f okV spec_l01In.f
  have he : (s.toList == ([] : List UInt8)) = s.data.toList.isEmpty := by rw [toList_data]; cases s.data.toList <;> rfl
  rw [he, size_data]
  by_cases h0 : a = 0
  · by_cases hb : b = 0 <;> simp [h0, hb]
  · by_cases h1 : a = 1
    · simp [h1]
    · by_cases h2 : a = 2
      · by_cases hb : 0 ≤ b
        · by_cases hb' : b ≤ 1 <;> simp [h2, hb, hb']
        · simp [h2, hb]
      · by_cases h3 : a = 3
        · by_cases hb : b = 0
          · simp [h3, hb]
            omega
          · simp [h3, hb]
        · simp [h0, h1, h2, h3]
theorem implValueOk_is (a b : Int) (s : ByteArray) : impl_ValueOk.f a b s = some (okV a b s.data.toList) := specValueOk_is a b s
/-! #### expressions -/
def okEN : Nat → S26 → Prop
  | 0, _ => False
  | n + 1, x => x.f2.f2.size ≤ 9223372036854775807 ∧ x.f3.size ≤ 9223372036854775807 ∧ x.f4.length ≤ 9223372036854775807 ∧ ∀ y ∈ x.f4, okEN n y
def wtEN : Nat → S26 → Nat
  | 0, _ => 0
  | n + 1, x => x.f2.f2.size + (x.f3.size + (x.f4.length + (x.f4.map (wtEN n)).sum))
theorem szExp_is : ∀ (n : Nat) (x : S26), okEN n x → ∃ K, ∀ k, K ≤ k → ∀ l, 0 ≤ l → l ≤ 1048576 → laws_szExp.f k x.f0 x.f1 x.f2.f0 x.f2.f1 x.f2.f2 x.f3 x.f4 l = some (lft l (wtEN n x))
  | 0, _, h => h.elim
  | n + 1, x, h => by
    obtain ⟨h1, h2, h3, h4⟩ := h
    obtain ⟨K, hK⟩ := ev_all (xs := x.f4) (P := fun k y => ∀ l, 0 ≤ l → l ≤ 1048576 → laws_szExp.f k y.f0 y.f1 y.f2.f0 y.f2.f1 y.f2.f2 y.f3 y.f4 l = some (lft l (wtEN n y))) fun y hy => szExp_is n y (h4 y hy)
    refine ⟨max K (x.f4.length + 1) + 1, fun k hk l h0 h5 => ?_⟩
    obtain ⟨k, rfl⟩ : ∃ m, k = m + 1 := ⟨k - 1, by omega⟩
    show (laws_szValue.f _ _ _ l).bind _ = _
    rw [szValue_is _ _ _ l h0 h5 h1, Option.bind_some]
    by_cases a : (x.f2.f2.size : Int) ≤ l
    · rw [lft_of_le a, if_neg (by omega), wrap_id (x := l - (x.f2.f2.size : Int) - (x.f3.size : Int)) (by omega) (by omega)]
      by_cases b : l - (x.f2.f2.size : Int) - (x.f3.size : Int) < 0
      · rw [if_pos b, lft_of_gt (by unfold wtEN; omega)]
      · rw [if_neg b, szk_list z26 (laws_szExpS.f (laws_szExp.f k)) (laws_szExpS.l0 (laws_szExp.f k)) (fun y l => laws_szExp.f k y.f0 y.f1 y.f2.f0 y.f2.f1 y.f2.f2 y.f3 y.f4 l) (wtEN n) (fun _ _ _ => rfl) (fun _ _ _ _ => rfl) x.f4 h3 (fun y hy l a b => hK k (by omega) y hy l a b) k (by omega) _ (by omega) (by omega), Option.bind_some]
        by_cases c : ((x.f4.length + (x.f4.map (wtEN n)).sum : Nat) : Int) ≤ l - (x.f2.f2.size : Int) - (x.f3.size : Int)
        · rw [lft_of_le c, if_neg (by omega), lft_of_le (by unfold wtEN; omega)]
          congr 1
          unfold wtEN
          omega
        · rw [lft_of_gt c, if_pos (by omega), lft_of_gt (by unfold wtEN; omega)]
    · rw [lft_of_gt a, if_pos (by omega), lft_of_gt (by unfold wtEN; omega)]
theorem wtE_kid {n : Nat} {x y : S26} {b : Nat} (h : wtEN (n + 1) x ≤ b) (hy : y ∈ x.f4) : wtEN n y ≤ b := by
  have := sum_le_of_mem0 (wtEN n) hy
  unfold wtEN at h
  omega
theorem wtE_len {n : Nat} {x : S26} {b : Nat} (h : wtEN (n + 1) x ≤ b) : x.f4.length ≤ b := by
  unfold wtEN at h
  omega
def toEN : Nat → S26 → S32
  | 0, _ => z32
  | n + 1, x => ⟨x.f0, x.f1, ⟨x.f2.f0, x.f2.f1, x.f2.f2⟩, x.f3, x.f4.map (toEN n)⟩
theorem toExp_is : ∀ (n : Nat) (x : S26), okEN n x → wtEN n x ≤ 1048576 → ∃ K, ∀ k, K ≤ k → laws_toExp.f k x.f0 x.f1 x.f2.f0 x.f2.f1 x.f2.f2 x.f3 x.f4 = some ((toEN n x).f0, (toEN n x).f1, (toEN n x).f2.f0, (toEN n x).f2.f1, (toEN n x).f2.f2, (toEN n x).f3, (toEN n x).f4)
  | 0, _, h, _ => h.elim
  | n + 1, x, h, hw => by
    obtain ⟨_, _, _, h4⟩ := h
    have hl := wtE_len hw
    obtain ⟨K, hK⟩ := ev_all (xs := x.f4) (P := fun k y => laws_toExp.f k y.f0 y.f1 y.f2.f0 y.f2.f1 y.f2.f2 y.f3 y.f4 = some ((toEN n y).f0, (toEN n y).f1, (toEN n y).f2.f0, (toEN n y).f2.f1, (toEN n y).f2.f2, (toEN n y).f3, (toEN n y).f4)) fun y hy => toExp_is n y (h4 y hy) (wtE_kid hw hy)
    refine ⟨max K (x.f4.length + 1) + 1, fun k hk => ?_⟩
    obtain ⟨k, rfl⟩ : ∃ m, k = m + 1 := ⟨k - 1, by omega⟩
    show ((laws_toExpS.f (laws_toExp.f k) k x.f4).bind _) = _
    rw [mapk_list z26 z32 (laws_toExpS.f (laws_toExp.f k)) (laws_toExpS.l0 (laws_toExp.f k)) (fun y => laws_toExp.f k y.f0 y.f1 y.f2.f0 y.f2.f1 y.f2.f2 y.f3 y.f4) (fun bt => (⟨bt.1, bt.2.1, (⟨bt.2.2.1, bt.2.2.2.1, bt.2.2.2.2.1⟩ : S29), bt.2.2.2.2.2.1, bt.2.2.2.2.2.2⟩ : S32)) (fun y => ((toEN n y).f0, (toEN n y).f1, (toEN n y).f2.f0, (toEN n y).f2.f1, (toEN n y).f2.f2, (toEN n y).f3, (toEN n y).f4)) 3198579280802 (fun _ _ => rfl) (fun _ _ _ _ => rfl) x.f4 (by omega) (by omega) (fun y hy => hK k (by omega) y hy) k (by omega), Option.bind_some]
    have e : toEN (n + 1) x = ⟨x.f0, x.f1, ⟨x.f2.f0, x.f2.f1, x.f2.f2⟩, x.f3, x.f4.map (toEN n)⟩ := by simp only [toEN]
    rw [e]
    have hm : ∀ y : S32, (⟨y.f0, y.f1, (⟨y.f2.f0, y.f2.f1, y.f2.f2⟩ : S29), y.f3, y.f4⟩ : S32) = y := fun y => by cases y; rfl
    exact congrArg (fun l => some (x.f0, x.f1, x.f2.f0, x.f2.f1, x.f2.f2, x.f3, l)) (List.map_congr_left fun y _ => hm (toEN n y))
/-- All lists of kids are short, so far down. -/
def shortI : Nat → S32 → Prop
  | 0, _ => True
  | m + 1, y => y.f4.length ≤ 1048576 ∧ ∀ z ∈ y.f4, shortI m z
theorem short_z : ∀ m, shortI m z32
  | 0 => trivial
  | _ + 1 => ⟨by simp [z32], fun z hz => by simp [z32] at hz⟩
theorem toE_short : ∀ (n m : Nat) (x : S26), wtEN n x ≤ 1048576 → shortI m (toEN n x)
  | 0, m, _, _ => short_z m
  | _ + 1, 0, _, _ => trivial
  | n + 1, m + 1, x, h => by
    refine ⟨?_, fun z hz => ?_⟩
    · show (x.f4.map (toEN n)).length ≤ 1048576
      rw [List.length_map]
      exact wtE_len h
    · obtain ⟨u, hu, rfl⟩ := List.mem_map.1 hz
      exact toE_short n m u (wtE_kid h hu)
theorem eqExp_refl : ∀ (n : Nat) (x : S26), okEN n x → wtEN n x ≤ 1048576 → ∃ K, ∀ k, K ≤ k → laws_eqExp.f k (toEN n x).f0 (toEN n x).f1 (toEN n x).f2.f0 (toEN n x).f2.f1 (toEN n x).f2.f2 (toEN n x).f3 (toEN n x).f4 (toEN n x).f0 (toEN n x).f1 (toEN n x).f2.f0 (toEN n x).f2.f1 (toEN n x).f2.f2 (toEN n x).f3 (toEN n x).f4 = some true
  | 0, _, h, _ => h.elim
  | n + 1, x, h, hw => by
    obtain ⟨_, _, _, h4⟩ := h
    have hl := wtE_len hw
    obtain ⟨K, hK⟩ := ev_all (xs := x.f4) (P := fun k y => laws_eqExp.f k (toEN n y).f0 (toEN n y).f1 (toEN n y).f2.f0 (toEN n y).f2.f1 (toEN n y).f2.f2 (toEN n y).f3 (toEN n y).f4 (toEN n y).f0 (toEN n y).f1 (toEN n y).f2.f0 (toEN n y).f2.f1 (toEN n y).f2.f2 (toEN n y).f3 (toEN n y).f4 = some true) fun y hy => eqExp_refl n y (h4 y hy) (wtE_kid hw hy)
    refine ⟨max K (x.f4.length + 1) + 1, fun k hk => ?_⟩
    obtain ⟨k, rfl⟩ : ∃ m, k = m + 1 := ⟨k - 1, by omega⟩
    have e := eqk_list z32 (laws_eqExpS.f (laws_eqExp.f k)) (laws_eqExpS.l0 (laws_eqExp.f k)) (fun y z => laws_eqExp.f k y.f0 y.f1 y.f2.f0 y.f2.f1 y.f2.f2 y.f3 y.f4 z.f0 z.f1 z.f2.f0 z.f2.f1 z.f2.f2 z.f3 z.f4) (fun _ _ _ => rfl) (fun _ _ _ _ => rfl) (x.f4.map (toEN n)) (by rw [List.length_map]; omega) (fun y hy => by
      obtain ⟨u, hu, rfl⟩ := List.mem_map.1 hy
      exact hK k (by omega) u hu) k (by rw [List.length_map]; omega)
    simp [laws_eqExp.f, laws_eqValue.f, toEN, e]
theorem l03Has_is (xs : List ByteArray) (s : ByteArray) (hn : xs.length ≤ 9223372036854775807) : Ev (fun k => spec_l03Has.f k xs s) (xs.any fun x => x.toList == s.toList) := by
  have h : ∀ (n i : Nat), xs.length - i = n → i ≤ xs.length → Ev (fun k => spec_l03Has.l0 k xs s (i : Int)) ((xs.drop i).any fun x => x.toList == s.toList) := by
    intro n
    induction n with
    | zero =>
      intro i h1 h2
      refine Ev.step (fun k => rfl) (ev_if_neg (by omega) (ev_conv (ev_some fun _ => rfl) ?_))
      rw [show i = xs.length by omega, List.drop_length]
      rfl
    | succ n ih =>
      intro i h1 h2
      have hi : i < xs.length := by omega
      refine Ev.step (fun k => rfl) (ev_if_pos (by omega) (ev_if_pos (by omega) ?_))
      rw [drop_cons_getD ByteArray.empty hi, List.any_cons]
      show Ev (fun k => if (xs.getD (i : Int).toNat ByteArray.empty).toList = s.toList then some true else spec_l03Has.l0 k xs s (wrap64 ((i : Int) + 1))) _
      rw [Int.toNat_natCast]
      by_cases e : (xs.getD i ByteArray.empty).toList = s.toList
      · exact ev_if_pos e (ev_conv (ev_some fun _ => rfl) (by rw [e]; simp))
      · refine ev_if_neg e ?_
        rw [wrap_succ hi hn]
        exact ev_conv (ih (i + 1) (by omega) (by omega)) (by rw [show ((xs.getD i ByteArray.empty).toList == s.toList) = false from beq_eq_false_iff_ne.mpr e, Bool.false_or])
  exact ev_conv (h xs.length 0 (by omega) (by omega)) (by rw [List.drop_zero])
theorem containsS_is (xs : List ByteArray) (s : ByteArray) (hn : xs.length ≤ 9223372036854775807) : Ev (fun k => slices_Contains_string_string.f k xs s) (xs.any fun x => x.toList == s.toList) := by
  have h : ∀ (n i : Nat), xs.length - i = n → i ≤ xs.length → ∃ j, Ev (fun k => slices_Index_string_string.l0 k xs s (xs.length : Int) (i : Int)) j ∧ decide (j ≥ 0) = (xs.drop i).any fun x => x.toList == s.toList := by
    intro n
    induction n with
    | zero =>
      intro i h1 h2
      refine ⟨-1, Ev.step (fun k => rfl) (ev_if_neg (by omega) (ev_some fun _ => rfl)), ?_⟩
      rw [show i = xs.length by omega, List.drop_length]
      rfl
    | succ n ih =>
      intro i h1 h2
      have hi : i < xs.length := by omega
      by_cases e : s.toList = (xs.getD i ByteArray.empty).toList
      · refine ⟨i, Ev.step (fun k => rfl) (ev_if_pos (by omega) (ev_if_pos (by omega) (ev_if_pos (by omega) ?_))), ?_⟩
        · show Ev (fun k => if s.toList = (xs.getD (i : Int).toNat ByteArray.empty).toList then some (i : Int) else slices_Index_string_string.l0 k xs s (xs.length : Int) (wrap64 ((i : Int) + 1))) _
          rw [Int.toNat_natCast]
          exact ev_if_pos e (ev_some fun _ => rfl)
        · rw [drop_cons_getD ByteArray.empty hi, List.any_cons]
          rw [← e]
          simp
      · obtain ⟨j, hj, hd⟩ := ih (i + 1) (by omega) (by omega)
        refine ⟨j, Ev.step (fun k => rfl) (ev_if_pos (by omega) (ev_if_pos (by omega) (ev_if_pos (by omega) ?_))), ?_⟩
        · show Ev (fun k => if s.toList = (xs.getD (i : Int).toNat ByteArray.empty).toList then some (i : Int) else slices_Index_string_string.l0 k xs s (xs.length : Int) (wrap64 ((i : Int) + 1))) _
          rw [Int.toNat_natCast, wrap_succ hi hn]
          exact ev_if_neg e hj
        · rw [hd, drop_cons_getD ByteArray.empty hi, List.any_cons]
          rw [show ((xs.getD i ByteArray.empty).toList == s.toList) = false from beq_eq_false_iff_ne.mpr fun h => e h.symm, Bool.false_or]
  obtain ⟨j, hj, hd⟩ := h xs.length 0 (by omega) (by omega)
  rw [List.drop_zero] at hd
  exact Ev.congr (fun k => rfl) (Ev.bind hj (f := fun k t => some (decide (t ≥ 0))) (ev_conv (ev_some fun _ => rfl) hd))
/-- The texts of the operations. -/
def opsL : List ByteArray := [(⟨#[43]⟩ : ByteArray), (⟨#[45]⟩ : ByteArray), (⟨#[42]⟩ : ByteArray), (⟨#[47]⟩ : ByteArray), (⟨#[61]⟩ : ByteArray), (⟨#[60]⟩ : ByteArray), (⟨#[126]⟩ : ByteArray), (⟨#[97, 110, 100]⟩ : ByteArray), (⟨#[111, 114]⟩ : ByteArray)]
def isOpB (op : ByteArray) : Bool := opsL.any fun x => x.toList == op.toList
/-- An expression's own part is right, and so many kids are asked. -/
def locE (a n v0 v1 : Int) (v2 op : ByteArray) (c : Nat) : Bool :=
  if a = 0 then decide (0 ≤ n ∧ n ≤ 11) && nullB v0 v1 v2 && (op.toList == ([] : List UInt8)) && c == 0
  else if a = 1 then okV v0 v1 v2.data.toList && (n == 0) && (op.toList == ([] : List UInt8)) && c == 0
  else if a = 2 then isOpB op && (n == 0) && nullB v0 v1 v2 && c == 2
  else if a = 3 ∨ a = 4 then (n == 0) && nullB v0 v1 v2 && (op.toList == ([] : List UInt8)) && c == 1
  else false
/-- An expression is right, and nothing stands more than m - 1 below it. -/
def okE : Nat → S32 → Bool
  | 0, _ => false
  | m + 1, y => locE y.f0 y.f1 y.f2.f0 y.f2.f1 y.f2.f2 y.f3 y.f4.length && y.f4.all (okE m)
theorem isColumn_is (n : Int) : impl_isColumn.f n = some (decide (0 ≤ n ∧ n ≤ 11)) := by
  unfold impl_isColumn.f impl_within.f
  by_cases h : 0 ≤ n <;> simp [h]
theorem isOp_is (op : ByteArray) : Ev (fun k => impl_isOp.f k op) (isOpB op) :=
  Ev.congr (fun k => rfl) (Ev.bind (containsS_is opsL op (by decide)) (f := fun k t => some t) (ev_some fun _ => rfl))
theorem allO_evs {α : Type} {f : Nat → α → Option Bool} {g : α → Bool} : ∀ {xs : List α}, (∀ x ∈ xs, Ev (fun k => f k x) (g x)) → Ev (fun k => allO (f k) xs) (xs.all g)
  | [], _ => ev_some fun _ => rfl
  | x :: xs, h => by
    refine Ev.congr (fun k => rfl) (Ev.bind (h x (by simp)) (f := fun k t => if t = true then allO (f k) xs else some false) ?_)
    cases hx : g x with
    | true => exact ev_if_pos rfl (ev_conv (allO_evs fun y hy => h y (by simp [hy])) (by simp [hx]))
    | false => exact ev_if_neg (by simp) (ev_conv (ev_some fun _ => rfl) (by simp [hx]))
theorem loc_end (b : Bool) (c : Nat) (kn : Int) (m : Nat) (h : kn = m) : (if b = true then decide ((c : Int) = kn) else false) = (b && c == m) := by
  subst h
  cases b with
  | false => rfl
  | true =>
    rw [if_pos rfl, Bool.true_and, Bool.eq_iff_iff, decide_eq_true_iff, beq_iff_eq]
    omega
theorem isExpS_is (a n v0 v1 : Int) (v2 op : ByteArray) : ∃ kn rt, Ev (fun k => isExpS k a n v0 v1 v2 op) (kn, rt) ∧ ∀ c : Nat, (if rt = true then decide ((c : Int) = kn) else false) = locE a n v0 v1 v2 op c := by
  unfold isExpS locE
  by_cases a0 : a = 0
  · exact ⟨0, _, ev_if_pos a0 (ev_bind0 (isColumn_is n) (ev_some fun _ => rfl)), fun c => by rw [if_pos a0]; exact loc_end _ c 0 0 rfl⟩
  by_cases a1 : a = 1
  · exact ⟨0, _, ev_if_neg a0 (ev_if_pos a1 (ev_bind0 (implValueOk_is v0 v1 v2) (ev_some fun _ => rfl))), fun c => by rw [if_neg a0, if_pos a1]; exact loc_end _ c 0 0 rfl⟩
  by_cases a2 : a = 2
  · exact ⟨2, _, ev_if_neg a0 (ev_if_neg a1 (ev_if_pos a2 (Ev.bind (isOp_is op) (ev_some fun _ => rfl)))), fun c => by rw [if_neg a0, if_neg a1, if_pos a2]; exact loc_end _ c 2 2 rfl⟩
  by_cases a3 : a = 3 ∨ a = 4
  · exact ⟨1, _, ev_if_neg a0 (ev_if_neg a1 (ev_if_neg a2 (ev_if_pos a3 (ev_some fun _ => rfl)))), fun c => by rw [if_neg a0, if_neg a1, if_neg a2, if_pos a3]; exact loc_end _ c 1 1 rfl⟩
  · exact ⟨0, false, ev_if_neg a0 (ev_if_neg a1 (ev_if_neg a2 (ev_if_neg a3 (ev_some fun _ => rfl)))), fun c => by simp [a0, a1, a2, a3]⟩
theorem impl_isExp_is : ∀ (m : Nat) (y : S32) (d : Int), m ≤ 13 → d = 13 - m → shortI m y → Ev (fun k => impl_isExp.f k y.f0 y.f1 y.f2.f0 y.f2.f1 y.f2.f2 y.f3 y.f4 d) (okE m y) := by
  intro m
  induction m with
  | zero =>
    intro y d hm hd _
    obtain ⟨kn, rt, hs, _⟩ := isExpS_is y.f0 y.f1 y.f2.f0 y.f2.f1 y.f2.f2 y.f3
    refine Ev.step (fun k => rfl) (Ev.bind hs ?_)
    cases rt with
    | false => exact ev_if_neg (by simp) (ev_some fun _ => rfl)
    | true => exact ev_if_pos rfl (ev_if_neg (by omega) (ev_some fun _ => rfl))
  | succ m ih =>
    intro y d hm hd hy
    obtain ⟨kn, rt, hs, hl⟩ := isExpS_is y.f0 y.f1 y.f2.f0 y.f2.f1 y.f2.f2 y.f3
    have hl := hl y.f4.length
    refine Ev.step (fun k => rfl) (Ev.bind hs ?_)
    cases rt with
    | false => exact ev_if_neg (by simp) (ev_conv (ev_some fun _ => rfl) (by simp only [okE]; rw [← hl]; simp))
    | true =>
      rw [if_pos rfl] at hl
      refine ev_if_pos rfl (ev_if_pos (by omega) ?_)
      by_cases e : (y.f4.length : Int) = kn
      · refine ev_if_pos e (ev_conv (allO_evs (g := okE m) fun x hx => ?_) (by simp only [okE]; rw [← hl]; simp [e]))
        rw [wrap_id (x := d + 1) (by omega) (by omega)]
        exact ih x (d + 1) (by omega) (by omega) (hy.2 x hx)
      · exact ev_if_neg e (ev_conv (ev_some fun _ => rfl) (by simp only [okE]; rw [← hl]; simp [e]))
theorem l03In_is (a b c : Int) : spec_l01In.f a b c = some (decide (b ≤ a ∧ a ≤ c)) := by
  unfold spec_l01In.f
  by_cases h : b ≤ a <;> simp [h]
theorem l03j_is (a n v0 v1 : Int) (v2 op : ByteArray) (l : List S32) (hl : l.length ≤ 1048576) : Ev (fun k => spec_l03Right.j1 k (if n = 0 then nullB v0 v1 v2 else false) a n v0 v1 v2 op l) (locE a n v0 v1 v2 op l.length) := by
  have hc0 : ((l.length : Int) == 0) = (l.length == 0) := by rw [Bool.eq_iff_iff, beq_iff_eq, beq_iff_eq]; omega
  have hc1 : ((l.length : Int) == 1) = (l.length == 1) := by rw [Bool.eq_iff_iff, beq_iff_eq, beq_iff_eq]; omega
  unfold locE
  by_cases a0 : a = 0
  · rw [if_pos a0]
    refine Ev.step (fun k => rfl) (ev_if_pos a0 (ev_bind0 (l03In_is n 0 11) ?_))
    cases decide (0 ≤ n ∧ n ≤ 11) with
    | false => exact ev_if_neg (by simp) (ev_conv (ev_some fun _ => rfl) (by simp))
    | true =>
      refine ev_if_pos rfl ?_
      cases hz : nullB v0 v1 v2 with
      | false => exact ev_if_neg (by have := hz; unfold nullB at this; rw [this]; simp) (ev_conv (ev_some fun _ => rfl) (by simp))
      | true =>
        refine ev_if_pos hz ?_
        by_cases e : op.toList = ([] : List UInt8)
        · exact ev_if_pos e (ev_conv (ev_some fun _ => rfl) (by rw [hc0]; simp [e]))
        · exact ev_if_neg e (ev_conv (ev_some fun _ => rfl) (by simp [e]))
  rw [if_neg a0]
  by_cases a1 : a = 1
  · rw [if_pos a1]
    refine Ev.step (fun k => rfl) (ev_if_neg a0 (ev_if_pos a1 (ev_bind0 (specValueOk_is v0 v1 v2) ?_)))
    cases okV v0 v1 v2.data.toList with
    | false => exact ev_if_neg (by simp) (ev_conv (ev_some fun _ => rfl) (by simp))
    | true =>
      refine ev_if_pos rfl ?_
      by_cases e0 : n = 0
      · refine ev_if_pos e0 ?_
        by_cases e : op.toList = ([] : List UInt8)
        · exact ev_if_pos e (ev_conv (ev_some fun _ => rfl) (by rw [hc0]; simp [e, e0]))
        · exact ev_if_neg e (ev_conv (ev_some fun _ => rfl) (by simp [e]))
      · exact ev_if_neg e0 (ev_conv (ev_some fun _ => rfl) (by simp [e0]))
  rw [if_neg a1]
  have hp : (if n = 0 then nullB v0 v1 v2 else false) = ((n == 0) && nullB v0 v1 v2) := by by_cases e : n = 0 <;> simp [e]
  rw [hp]
  by_cases a2 : a = 2
  · rw [if_pos a2]
    refine Ev.step (fun k => rfl) (ev_if_neg a0 (ev_if_neg a1 (ev_if_pos a2 ?_)))
    cases hq : ((n == 0) && nullB v0 v1 v2) with
    | false => exact ev_if_neg (by simp) (ev_conv (ev_some fun _ => rfl) (by rw [Bool.and_assoc (isOpB op), hq]; simp))
    | true =>
      refine ev_if_pos rfl ?_
      by_cases e : (l.length : Int) = 2
      · refine ev_if_pos e (ev_conv (Ev.bind (l03Has_is opsL op (by decide)) (f := fun k t => some t) (ev_some fun _ => rfl)) ?_)
        rw [Bool.and_assoc (isOpB op), hq, show l.length = 2 by omega]
        simp [isOpB]
      · exact ev_if_neg e (ev_conv (ev_some fun _ => rfl) (by rw [show (l.length == 2) = false from beq_eq_false_iff_ne.mpr (by omega)]; simp))
  rw [if_neg a2]
  by_cases a3 : a = 3
  · rw [if_pos (Or.inl a3)]
    refine Ev.step (fun k => rfl) (ev_if_neg a0 (ev_if_neg a1 (ev_if_neg a2 (ev_if_pos a3 ?_))))
    cases hq : ((n == 0) && nullB v0 v1 v2) with
    | false => exact ev_if_neg (by simp) (ev_conv (ev_some fun _ => rfl) (by simp))
    | true =>
      refine ev_if_pos rfl ?_
      by_cases e : op.toList = ([] : List UInt8)
      · exact ev_if_pos e (ev_conv (ev_some fun _ => rfl) (by rw [hc1]; simp [e]))
      · exact ev_if_neg e (ev_conv (ev_some fun _ => rfl) (by simp [e]))
  by_cases a4 : a = 4
  · rw [if_pos (Or.inr a4)]
    refine Ev.step (fun k => rfl) (ev_if_neg a0 (ev_if_neg a1 (ev_if_neg a2 (ev_if_neg a3 (ev_if_pos a4 ?_)))))
    cases hq : ((n == 0) && nullB v0 v1 v2) with
    | false => exact ev_if_neg (by simp) (ev_conv (ev_some fun _ => rfl) (by simp))
    | true =>
      refine ev_if_pos rfl ?_
      by_cases e : op.toList = ([] : List UInt8)
      · exact ev_if_pos e (ev_conv (ev_some fun _ => rfl) (by rw [hc1]; simp [e]))
      · exact ev_if_neg e (ev_conv (ev_some fun _ => rfl) (by simp [e]))
  · rw [if_neg (by omega)]
    exact Ev.step (fun k => rfl) (ev_if_neg a0 (ev_if_neg a1 (ev_if_neg a2 (ev_if_neg a3 (ev_if_neg a4 (ev_some fun _ => rfl))))))
theorem spec_l03Right_is : ∀ (m : Nat) (y : S32) (d : Int), m ≤ 1000 → d = (m : Int) - 1 → shortI m y → Ev (fun k => spec_l03Right.f k y.f0 y.f1 y.f2.f0 y.f2.f1 y.f2.f2 y.f3 y.f4 d) (okE m y) := by
  intro m
  induction m with
  | zero =>
    intro y d hm hd _
    exact Ev.step (fun k => rfl) (ev_if_pos (by omega) (ev_some fun _ => rfl))
  | succ m ih =>
    intro y d hm hd hy
    obtain ⟨hl, hk⟩ := hy
    refine Ev.step (fun k => rfl) (ev_if_neg (by omega) ?_)
    have fin : ∀ r : Bool, (r = true ↔ locE y.f0 y.f1 y.f2.f0 y.f2.f1 y.f2.f2 y.f3 y.f4.length = true) → Ev (fun k => spec_l03Right.l0 k d (y.f4.length : Int) y.f0 y.f1 y.f2.f0 y.f2.f1 y.f2.f2 y.f3 y.f4) r := by
      intro r hr
      have e : r = locE y.f0 y.f1 y.f2.f0 y.f2.f1 y.f2.f2 y.f3 y.f4.length := by rw [Bool.eq_iff_iff]; exact hr
      rw [e]
      refine Ev.step (fun k => rfl) (ev_if_neg (by omega) ?_)
      have j := l03j_is y.f0 y.f1 y.f2.f0 y.f2.f1 y.f2.f2 y.f3 y.f4 hl
      by_cases e0 : y.f1 = 0
      · rw [if_pos e0] at j
        exact ev_if_pos e0 j
      · rw [if_neg e0] at j
        exact ev_if_neg e0 j
    refine all_loop y.f4.length (fun k i => spec_l03Right.l0 k d i y.f0 y.f1 y.f2.f0 y.f2.f1 y.f2.f2 y.f3 y.f4) (fun j => okE m (y.f4.getD j z32) = true) (locE y.f0 y.f1 y.f2.f0 y.f2.f1 y.f2.f2 y.f3 y.f4.length = true) fin ?_ (okE (m + 1) y) ?_
    · intro i hi r hg hb
      refine Ev.step (fun k => rfl) (ev_if_pos (by omega) (ev_if_pos (by omega) ?_))
      have e := ih (y.f4.getD i z32) (wrap64 (d - 1)) (by omega) (by rw [wrap_id (by omega) (by omega)]; omega) (hk _ (getD_mem _ hi))
      refine Ev.bind (a := okE m (y.f4.getD i z32)) e ?_
      cases ho : okE m (y.f4.getD i z32) with
      | true =>
        refine ev_if_pos rfl ?_
        rw [wrap_succ hi (by omega)]
        exact hg ho
      | false => exact ev_if_neg (by simp) (ev_conv (ev_some fun _ => rfl) (hb fun h => by rw [ho] at h; cases h).symm)
    · rw [forall_getD z32 (p := fun x => okE m x = true)]
      simp only [okE, Bool.and_eq_true, List.all_eq_true]
      exact And.comm
theorem impl_expOk_is (y : S32) (h : shortI 13 y) : Ev (fun k => impl_ExpOk.f k y.f0 y.f1 y.f2.f0 y.f2.f1 y.f2.f2 y.f3 y.f4) (okE 13 y) :=
  Ev.congr (fun k => rfl) (Ev.bind (impl_isExp_is 13 y 0 (by omega) (by omega) h) (f := fun k t => some t) (ev_some fun _ => rfl))
theorem spec_expOk_is (y : S32) (h : shortI 13 y) : Ev (fun k => spec_ExpOk.f k y.f0 y.f1 y.f2.f0 y.f2.f1 y.f2.f2 y.f3 y.f4) (okE 13 y) :=
  Ev.congr (fun k => rfl) (Ev.bind (spec_l03Right_is 13 y 12 (by omega) (by omega) h) (f := fun k t => some t) (ev_some fun _ => rfl))
def okT (t : Int × Int × ByteArray) : Prop := -9223372036854775808 ≤ t.2.1 ∧ t.2.1 ≤ 9223372036854775807 ∧ t.2.2.size ≤ 1048576
/-- All values of an expression are of their kinds, and short. -/
def goodI : Nat → S32 → Prop
  | 0, _ => True
  | m + 1, y => okT (y.f2.f0, y.f2.f1, y.f2.f2) ∧ ∀ z ∈ y.f4, goodI m z
/-- What being right tells of an expression's own part. -/
theorem locE_col {a n v0 v1 : Int} {v2 op : ByteArray} {c : Nat} (h : locE a n v0 v1 v2 op c = true) (h0 : a = 0) : 0 ≤ n := by
  unfold locE at h
  rw [if_pos h0] at h
  simp only [Bool.and_eq_true, decide_eq_true_eq] at h
  exact h.1.1.1.1
theorem locE_two {a n v0 v1 : Int} {v2 op : ByteArray} {c : Nat} (h : locE a n v0 v1 v2 op c = true) (h2 : a = 2) : c = 2 := by
  unfold locE at h
  rw [if_neg (by omega), if_neg (by omega), if_pos h2] at h
  simp only [Bool.and_eq_true, beq_iff_eq] at h
  exact h.2
theorem locE_one {a n v0 v1 : Int} {v2 op : ByteArray} {c : Nat} (h : locE a n v0 v1 v2 op c = true) (h0 : ¬ a = 0) (h1 : ¬ a = 1) (h2 : ¬ a = 2) : c = 1 := by
  unfold locE at h
  rw [if_neg h0, if_neg h1, if_neg h2] at h
  by_cases h3 : a = 3 ∨ a = 4
  · rw [if_pos h3] at h
    simp only [Bool.and_eq_true, beq_iff_eq] at h
    exact h.2
  · rw [if_neg h3] at h
    cases h
theorem okE_kid {m : Nat} {y z : S32} (h : okE (m + 1) y = true) (hz : z ∈ y.f4) : okE m z = true := by
  simp only [okE, Bool.and_eq_true, List.all_eq_true] at h
  exact h.2 z hz
theorem okE_loc {m : Nat} {y : S32} (h : okE (m + 1) y = true) : locE y.f0 y.f1 y.f2.f0 y.f2.f1 y.f2.f2 y.f3 y.f4.length = true := by
  simp only [okE, Bool.and_eq_true] at h
  exact h.1
theorem okE_f1 {m : Nat} {y : S32} (h : okE m y = true) : 0 ≤ y.f1 ∨ y.f0 ≠ 0 := by
  cases m with
  | zero => cases h
  | succ m =>
    by_cases a0 : y.f0 = 0
    · exact Or.inl (locE_col (okE_loc h) a0)
    · exact Or.inr a0
/-- What is read is of its kind, so far down. -/
def i64EN : Nat → S26 → Prop
  | 0, _ => False
  | n + 1, x => -9223372036854775808 ≤ x.f2.f1 ∧ x.f2.f1 ≤ 9223372036854775807 ∧ ∀ y ∈ x.f4, i64EN n y
theorem good_z : ∀ m, goodI m z32
  | 0 => trivial
  | _ + 1 => ⟨⟨by decide, by decide, by decide⟩, fun z hz => by simp [z32] at hz⟩
theorem toE_good : ∀ (n m : Nat) (x : S26), wtEN n x ≤ 1048576 → i64EN n x → goodI m (toEN n x)
  | 0, m, _, _, _ => good_z m
  | _ + 1, 0, _, _, _ => trivial
  | n + 1, m + 1, x, h, g => by
    refine ⟨⟨g.1, g.2.1, ?_⟩, fun z hz => ?_⟩
    · show x.f2.f2.size ≤ 1048576
      unfold wtEN at h
      omega
    · obtain ⟨u, hu, rfl⟩ := List.mem_map.1 hz
      exact toE_good n m u (wtE_kid h hu) (g.2.2 u hu)
/-! #### decimal numerals -/
theorem digit_cut (d : Nat) (hd : d < 10) : (⟨#[48, 49, 50, 51, 52, 53, 54, 55, 56, 57]⟩ : ByteArray).extract d (d + 1) = mkB [UInt8.ofNat (48 + d)] := by
  have : d = 0 ∨ d = 1 ∨ d = 2 ∨ d = 3 ∨ d = 4 ∨ d = 5 ∨ d = 6 ∨ d = 7 ∨ d = 8 ∨ d = 9 := by omega
  rcases this with rfl | rfl | rfl | rfl | rfl | rfl | rfl | rfl | rfl | rfl <;> rfl
theorem decDigits_pos {u : Nat} (h : 0 < u) : Lib.decDigits u = (if u / 10 = 0 then [] else Lib.decDigits (u / 10)) ++ [UInt8.ofNat (48 + u % 10)] := by
  by_cases h10 : u < 10
  · rw [Lib.decDigits, dif_pos h10, if_pos (by omega), Nat.mod_eq_of_lt h10]
    rfl
  · rw [Lib.decDigits, dif_neg h10, if_neg (by omega)]
theorem decDigits_len (u : Nat) : (Lib.decDigits u).length ≤ u + 1 := by
  induction u using Nat.strongRecOn with
  | _ u ih =>
    by_cases h10 : u < 10
    · rw [Lib.decDigits, dif_pos h10]
      simp
    · rw [Lib.decDigits, dif_neg h10]
      have := ih (u / 10) (by omega)
      simp
      omega
/-- The digits of a number that is not 0, laid ahead of a text. -/
theorem decLoop_is (a0 : Int) (h0 : -9223372036854775808 ≤ a0) (h1 : a0 ≤ 9223372036854775807) : ∀ (n : Nat) (m : Int) (acc : List UInt8), m.natAbs = n → n ≤ 9223372036854775808 → (m < 0 → a0 < 0) → -9223372036854775808 ≤ m → m ≤ 9223372036854775807 → acc.length + n ≤ 9223372036854775900 →
    (acc.length ≤ 100) → (∀ j, n / 10 ^ j ≠ 0 → acc.length + j < 30) →
    Ev (fun k => spec_DecText.l0 k a0 (mkB acc) m) (mkB ((if a0 < 0 then [45] else []) ++ ((if n = 0 then [] else Lib.decDigits n) ++ acc))) := by
  intro n
  induction n using Nat.strongRecOn with
  | _ n ih =>
    intro m acc hm hn hneg l0 l1 hl hl2 hj
    by_cases z : m = 0
    · have hn0 : n = 0 := by omega
      refine Ev.step (fun k => rfl) (ev_if_pos z ?_)
      rw [if_pos hn0]
      by_cases ha : a0 < 0
      · refine ev_if_pos ha (ev_if_pos (by rw [mkB_size]; omega) (ev_conv (ev_some fun _ => rfl) ?_))
        rw [if_pos ha]
        exact mkB_append [45] acc
      · exact ev_if_neg ha (ev_conv (ev_some fun _ => rfl) (by rw [if_neg ha]; rfl))
    · have hn0 : 0 < n := by omega
      have hj0 := hj 0 (by simp; omega)
      have hd : n % 10 < 10 := Nat.mod_lt _ (by omega)
      have rest : Ev (fun k => spec_DecText.l0 k a0 (mkB (UInt8.ofNat (48 + n % 10) :: acc)) (wrap64 (Int.tdiv m 10))) (mkB ((if a0 < 0 then [45] else []) ++ ((if n = 0 then [] else Lib.decDigits n) ++ acc))) := by
        have hq : (Int.tdiv m 10).natAbs = n / 10 := by rw [Int.natAbs_tdiv, hm]; rfl
        have hb : -9223372036854775808 ≤ Int.tdiv m 10 ∧ Int.tdiv m 10 ≤ 9223372036854775807 := by omega
        rw [wrap_id hb.1 hb.2]
        have hs : Int.tdiv m 10 < 0 → m < 0 := by
          intro h
          rcases Int.lt_or_le m 0 with g | g
          · exact g
          · have := Int.tdiv_nonneg g (show (0 : Int) ≤ 10 by decide)
            omega
        refine ev_conv (ih (n / 10) (by omega) (Int.tdiv m 10) (UInt8.ofNat (48 + n % 10) :: acc) hq (by omega) (fun h => hneg (hs h)) hb.1 hb.2 (by simp; omega) (by simp; omega) (fun j h => ?_)) ?_
        · have := hj (j + 1) (by rwa [Nat.pow_succ, Nat.mul_comm, ← Nat.div_div_eq_div_mul])
          simp
          omega
        · rw [if_neg (show ¬ n = 0 by omega), decDigits_pos hn0]
          simp
      have cut : ∀ (d : Int), d = ((n % 10 : Nat) : Int) → ((⟨#[48, 49, 50, 51, 52, 53, 54, 55, 56, 57]⟩ : ByteArray).extract d.toNat (wrap64 (d + 1)).toNat) ++ mkB acc = mkB (UInt8.ofNat (48 + n % 10) :: acc) ∧ ((⟨#[48, 49, 50, 51, 52, 53, 54, 55, 56, 57]⟩ : ByteArray).extract d.toNat (wrap64 (d + 1)).toNat).size + (mkB acc).size ≤ 9223372036854775807 := by
        intro d hd'
        rw [wrap_id (x := d + 1) (by omega) (by omega), show d.toNat = n % 10 by omega, show (d + 1).toNat = n % 10 + 1 by omega, digit_cut _ hd, mkB_append, mkB_size, mkB_size]
        exact ⟨rfl, by simp; omega⟩
      refine Ev.step (fun k => rfl) (ev_if_neg z ?_)
      have ht : (Int.tmod m 10).natAbs = n % 10 := by rw [Int.natAbs_tmod, hm]; rfl
      by_cases s : Int.tmod m 10 < 0
      · have e : wrap64 (-(Int.tmod m 10)) = ((n % 10 : Nat) : Int) := by rw [wrap_id (by omega) (by omega)]; omega
        obtain ⟨c1, c2⟩ := cut _ e
        refine ev_if_pos s (ev_if_pos (by omega) (ev_if_pos (by rw [wrap_id (x := wrap64 (-(Int.tmod m 10)) + 1) (by omega) (by omega)]; omega) (ev_if_pos (by rw [wrap_id (x := wrap64 (-(Int.tmod m 10)) + 1) (by omega) (by omega)]; omega) (ev_if_pos c2 ?_))))
        rw [c1]
        exact rest
      · have e : Int.tmod m 10 = ((n % 10 : Nat) : Int) := by omega
        obtain ⟨c1, c2⟩ := cut _ e
        refine ev_if_neg s (ev_if_pos (by omega) (ev_if_pos (by rw [wrap_id (x := Int.tmod m 10 + 1) (by omega) (by omega)]; omega) (ev_if_pos (by rw [wrap_id (x := Int.tmod m 10 + 1) (by omega) (by omega)]; omega) (ev_if_pos c2 ?_))))
        rw [c1]
        exact rest
theorem specDecText_is (a0 : Int) (h0 : -9223372036854775808 ≤ a0) (h1 : a0 ≤ 9223372036854775807) : Ev (fun k => spec_DecText.f k a0) (mkB (Lib.itoa a0)) := by
  by_cases z : a0 = 0
  · refine ev_if_pos z (ev_conv (ev_some fun _ => rfl) ?_)
    subst z
    rw [Lib.itoa, if_neg (by decide), Lib.decDigits, dif_pos (by decide)]
    rfl
  · refine ev_if_neg z (ev_conv (decLoop_is a0 h0 h1 a0.natAbs a0 [] rfl (by omega) (fun h => h) h0 h1 (by simp; omega) (by simp) (fun j h => ?_)) ?_)
    · have hlt : 10 ^ j ≤ a0.natAbs := by
        rcases Nat.lt_or_ge a0.natAbs (10 ^ j) with g | g
        · exact absurd (Nat.div_eq_of_lt g) h
        · exact g
      simp
      rcases Nat.lt_or_ge j 30 with g | g
      · exact g
      · have := Nat.pow_le_pow_right (show 0 < 10 by decide) g
        have e : (10 : Nat) ^ 30 = 1000000000000000000000000000000 := by decide
        omega
    · rw [if_neg (show ¬ a0.natAbs = 0 by omega), List.append_nil, Lib.itoa]
      by_cases s : a0 < 0
      · rw [if_pos s, if_pos s]
        rfl
      · rw [if_neg s, if_neg s, show a0.toNat = a0.natAbs by omega]
        rfl
theorem decDigits_len10 : ∀ (k u : Nat), u < 10 ^ (k + 1) → (Lib.decDigits u).length ≤ k + 1
  | k, u, h => by
    by_cases h10 : u < 10
    · rw [Lib.decDigits, dif_pos h10]
      simp
    · rw [Lib.decDigits, dif_neg h10]
      cases k with
      | zero => omega
      | succ k =>
        have := decDigits_len10 k (u / 10) (by rw [Nat.pow_succ] at h; omega)
        simp
        omega
theorem itoa_len {b : Int} (h0 : -9223372036854775808 ≤ b) (h1 : b ≤ 9223372036854775807) : (Lib.itoa b).length ≤ 21 := by
  have e : (10 : Nat) ^ (19 + 1) = 100000000000000000000 := by decide
  rw [Lib.itoa]
  by_cases s : b < 0
  · rw [if_pos s]
    have := decDigits_len10 19 b.natAbs (by omega)
    simp
    omega
  · rw [if_neg s]
    have := decDigits_len10 19 b.toNat (by omega)
    omega
theorem implDecText_is (a0 : Int) (h0 : -9223372036854775808 ≤ a0) (h1 : a0 ≤ 9223372036854775807) : impl_DecText.f a0 = some (mkB (Lib.itoa a0)) := by
  unfold impl_DecText.f strconv_Itoa.f
  rw [if_pos h0, if_pos h1]
  rfl
/-! #### a text in quotes -/
/-- Each quote is written twice. -/
def dbl (l : List UInt8) : List UInt8 := l.flatMap fun b => if b = 39 then [39, 39] else [b]
theorem dbl_nil : dbl [] = [] := rfl
theorem dbl_cons (b : UInt8) (l : List UInt8) : dbl (b :: l) = (if b = 39 then [39, 39] else [b]) ++ dbl l := by simp [dbl]
theorem dbl_len (l : List UInt8) : (dbl l).length ≤ 2 * l.length := by
  induction l with
  | nil => exact Nat.le_refl _
  | cons b l ih =>
    rw [dbl_cons, List.length_append, List.length_cons]
    by_cases h : b = 39
    · rw [if_pos h]
      simp
      omega
    · rw [if_neg h]
      simp
      omega
theorem cut_one (s : ByteArray) (i : Nat) (h : i < s.data.toList.length) : s.extract i (i + 1) = mkB [s.data.toList.getD i 0] := by
  rw [extract_mk, drop_cons_getD 0 h, show i + 1 - i = 1 by omega]
  rfl
theorem quoteLoop_is (s : ByteArray) (hs : s.data.toList.length ≤ 1000000000000) : ∀ (n i : Nat) (acc : List UInt8), s.data.toList.length - i = n → i ≤ s.data.toList.length → acc.length ≤ 2 * i + 1 → Ev (fun k => spec_l01Quote.l0 k s (mkB acc) i) (mkB (acc ++ (dbl (s.data.toList.drop i) ++ [39]))) := by
  have hz := size_data s
  intro n
  induction n with
  | zero =>
    intro i acc h1 h2 h3
    have e : i = s.data.toList.length := by omega
    refine Ev.step (fun k => rfl) (ev_if_neg (by omega) (ev_if_pos (by rw [mkB_size]; omega) (ev_conv (ev_some fun _ => rfl) ?_)))
    rw [e, List.drop_length, dbl_nil]
    exact mkB_append acc [39]
  | succ n ih =>
    intro i acc h1 h2 h3
    have hi : i < s.data.toList.length := by omega
    have hw : wrap64 ((i : Int) + 1) = ((i + 1 : Nat) : Int) := wrap_succ hi (by omega)
    have hc : s.extract (i : Int).toNat (wrap64 ((i : Int) + 1)).toNat = mkB [s.data.toList.getD i 0] := by
      rw [hw]
      exact cut_one s i hi
    have hb : bt s i = ((s.data.toList.getD i 0).toNat : Int) := bt_data s i
    refine Ev.step (fun k => rfl) (ev_if_pos (by omega) (ev_if_pos (by omega) (ev_if_pos (by rw [hw]; omega) (ev_if_pos (by rw [hw]; omega) ?_))))
    rw [hc, hb, drop_cons_getD 0 hi, dbl_cons]
    generalize s.data.toList.getD i 0 = c
    refine ev_if_pos (by rw [mkB_size, mkB_size, List.length_singleton]; omega) ?_
    rw [mkB_append]
    by_cases h : c = 39
    · refine ev_if_pos (by rw [h]; rfl) (ev_if_pos (by rw [mkB_size, List.length_append, List.length_singleton]; omega) ?_)
      rw [show (⟨#[39]⟩ : ByteArray) = mkB [39] from rfl, mkB_append, hw]
      refine ev_conv (ih (i + 1) _ (by omega) (by omega) (by simp; omega)) ?_
      rw [if_pos h, h]
      simp
    · refine ev_if_neg (fun g => h (UInt8.toNat.inj (by rw [show (39 : UInt8).toNat = 39 from rfl]; omega))) ?_
      rw [hw]
      refine ev_conv (ih (i + 1) _ (by omega) (by omega) (by simp; omega)) ?_
      rw [if_neg h]
      simp
theorem specQuote_is (s : ByteArray) (hs : s.data.toList.length ≤ 1000000000000) : Ev (fun k => spec_l01Quote.f k s) (mkB (39 :: (dbl s.data.toList ++ [39]))) :=
  quoteLoop_is s hs _ 0 [39] rfl (Nat.zero_le _) (Nat.le_refl _)
theorem replaceK_miss {old new : List UInt8} {k : Nat} {s : List UInt8} (h : Lib.index s old = -1) : Lib.replaceK old new k s = s := by
  cases k with
  | zero => rfl
  | succ k => rw [Lib.replaceK, if_pos (by rw [h]; rfl)]
theorem replaceK_dbl : ∀ (l : List UInt8) (k : Nat), l.count 39 ≤ k → Lib.replaceK [39] [39, 39] k l = dbl l
  | [], k, _ => by rw [replaceK_miss (by rfl)]; rfl
  | b :: l, k, hk => by
    rw [dbl_cons]
    by_cases h : b = 39
    · subst h
      rw [if_pos rfl]
      rw [List.count_cons_self] at hk
      cases k with
      | zero => omega
      | succ k =>
        rw [Lib.replaceK_hit [39] [39, 39] k (39 :: l) 0 (by rfl)]
        rw [show (39 :: l).drop (0 + [(39 : UInt8)].length) = l from rfl, replaceK_dbl l k (by omega)]
        rfl
    · rw [if_neg h]
      rw [List.count_cons_of_ne (fun g => h (by simpa using g))] at hk
      have ih := replaceK_dbl l k hk
      have hp : ([39] : List UInt8).isPrefixOf (b :: l) = false := by
        simp [List.isPrefixOf]
        exact fun g => h g.symm
      have hx : Lib.index (b :: l) [39] = if Lib.index l [39] == -1 then -1 else Lib.index l [39] + 1 := by
        rw [Lib.index, hp]
        rfl
      rw [← ih]
      cases k with
      | zero => rfl
      | succ k =>
        by_cases hm : Lib.index l [39] = -1
        · rw [replaceK_miss hm, replaceK_miss (by rw [hx, hm]; rfl)]
          rfl
        · have hge := Lib.index_ge l [39]
          obtain ⟨i, hi⟩ : ∃ i : Nat, Lib.index l [39] = i := ⟨(Lib.index l [39]).toNat, by omega⟩
          rw [Lib.replaceK_hit [39] [39, 39] k l i hi, Lib.replaceK_hit [39] [39, 39] k (b :: l) (i + 1) (by rw [hx, hi, if_neg (by intro g; have := beq_iff_eq.1 g; omega)]; rfl)]
          rw [show i + 1 + [(39 : UInt8)].length = (i + [(39 : UInt8)].length) + 1 by omega, List.drop_succ_cons, List.take_succ_cons]
          rfl
theorem replaceAll_dbl (l : List UInt8) : Lib.replaceAll l [39] [39, 39] = dbl l := by
  unfold Lib.replaceAll Lib.replace Lib.replaceNum
  rw [if_neg (by decide), if_pos (Or.inl (by decide)), Lib.count_one]
  exact replaceK_dbl l _ (Nat.le_refl _)
theorem replaceAll_is (s : ByteArray) (hs : s.data.toList.length ≤ 1000000) : strings_ReplaceAll.f s ⟨#[39]⟩ ⟨#[39, 39]⟩ = some (mkB (dbl s.data.toList)) := by
  have hz := size_data s
  unfold strings_ReplaceAll.f
  have h1 : 1 ≤ (⟨#[39]⟩ : ByteArray).size := Nat.le_refl 1
  have hc : Lib.countB s ⟨#[39]⟩ ≤ s.size := Lib.countB_le ⟨#[39]⟩ h1 s.size s (Nat.le_refl _)
  have h2 : (⟨#[39, 39]⟩ : ByteArray).size = 2 := rfl
  rw [if_pos ⟨by omega, h1, by rw [h2]; omega⟩]
  exact congrArg some (congrArg mkB (replaceAll_dbl s.data.toList))
/-- The text of a value. -/
def vtext (a b : Int) (s : List UInt8) : List UInt8 := if okV a b s then (if a = 0 then [110, 117, 108, 108] else if a = 1 then Lib.itoa b else if a = 3 then 39 :: (dbl s ++ [39]) else if b = 1 then [116, 114, 117, 101] else [102, 97, 108, 115, 101]) else []
theorem okV_kinds {a b : Int} {s : List UInt8} (h : okV a b s = true) : a = 0 ∨ a = 1 ∨ a = 2 ∨ (a = 3 ∧ s.length ≤ 100) := by
  unfold okV at h
  by_cases h0 : a = 0
  · exact Or.inl h0
  by_cases h1 : a = 1
  · exact Or.inr (Or.inl h1)
  by_cases h2 : a = 2
  · exact Or.inr (Or.inr (Or.inl h2))
  rw [if_neg h0, if_neg h1, if_neg h2] at h
  by_cases h3 : a = 3
  · rw [if_pos h3, Bool.and_eq_true] at h
    exact Or.inr (Or.inr (Or.inr ⟨h3, of_decide_eq_true h.2⟩))
  · rw [if_neg h3] at h
    cases h
theorem specValueText_is (a b : Int) (s : ByteArray) (h0 : -9223372036854775808 ≤ b) (h1 : b ≤ 9223372036854775807) : Ev (fun k => spec_ValueText.f k a b s) (mkB (vtext a b s.data.toList)) := by
  refine ev_bind0 (specValueOk_is a b s) ?_
  unfold vtext
  by_cases ok : okV a b s.data.toList = true
  · have hk := okV_kinds ok
    refine ev_if_pos ok ?_
    rw [if_pos ok]
    by_cases k0 : a = 0
    · refine ev_if_pos k0 (ev_conv (ev_some fun _ => rfl) ?_)
      rw [if_pos k0]
      rfl
    rw [if_neg k0]
    refine ev_if_neg k0 ?_
    by_cases k1 : a = 1
    · rw [if_pos k1]
      exact ev_if_pos k1 (Ev.bind (specDecText_is b h0 h1) (ev_some fun _ => rfl))
    rw [if_neg k1]
    refine ev_if_neg k1 ?_
    by_cases k3 : a = 3
    · rw [if_pos k3]
      exact ev_if_pos k3 (Ev.bind (specQuote_is s (by omega)) (ev_some fun _ => rfl))
    rw [if_neg k3]
    refine ev_if_neg k3 ?_
    by_cases n1 : b = 1
    · exact ev_if_pos n1 (ev_conv (ev_some fun _ => rfl) (by rw [if_pos n1]; rfl))
    · exact ev_if_neg n1 (ev_conv (ev_some fun _ => rfl) (by rw [if_neg n1]; rfl))
  · rw [if_neg ok]
    exact ev_if_neg ok (ev_some fun _ => rfl)
theorem implValueText_is (a b : Int) (s : ByteArray) (h0 : -9223372036854775808 ≤ b) (h1 : b ≤ 9223372036854775807) : impl_ValueText.f a b s = some (mkB (vtext a b s.data.toList)) := by
  unfold impl_ValueText.f
  rw [implValueOk_is, Option.bind_some]
  unfold vtext
  by_cases ok : okV a b s.data.toList = true
  · have hk := okV_kinds ok
    rw [if_pos ok, if_pos ok]
    by_cases k0 : a = 0
    · rw [if_pos k0, if_pos k0]
      rfl
    rw [if_neg k0, if_neg k0]
    by_cases k1 : a = 1
    · rw [if_pos k1, if_pos k1, implDecText_is b h0 h1]
      rfl
    rw [if_neg k1, if_neg k1]
    by_cases k2 : a = 2
    · rw [if_pos k2, if_neg (show ¬ a = 3 by omega)]
      by_cases n1 : b = 1
      · subst n1
        rfl
      · rw [if_neg n1, show (b == 1) = false from beq_eq_false_iff_ne.2 n1]
        rfl
    have k3 : a = 3 ∧ s.data.toList.length ≤ 100 := by omega
    have hd := dbl_len s.data.toList
    rw [if_neg k2, if_pos k3.1, replaceAll_is s (by omega), Option.bind_some, if_pos (by rw [mkB_size]; omega), show (⟨#[39]⟩ : ByteArray) = mkB [39] from rfl, mkB_append, if_pos (by rw [mkB_size]; simp; omega), mkB_append]
    simp
  · rw [if_neg ok, if_neg ok]
    rfl
theorem vtext_len (a b : Int) (s : List UInt8) (h0 : -9223372036854775808 ≤ b) (h1 : b ≤ 9223372036854775807) : (vtext a b s).length ≤ 300 := by
  unfold vtext
  by_cases ok : okV a b s = true
  · have hk := okV_kinds ok
    have hi := itoa_len h0 h1
    have hd := dbl_len s
    rw [if_pos ok]
    by_cases k0 : a = 0
    · rw [if_pos k0]
      simp
    rw [if_neg k0]
    by_cases k1 : a = 1
    · rw [if_pos k1]
      omega
    rw [if_neg k1]
    by_cases k3 : a = 3
    · rw [if_pos k3]
      simp
      omega
    rw [if_neg k3]
    by_cases n1 : b = 1
    · rw [if_pos n1]
      simp
    · rw [if_neg n1]
      simp
  · rw [if_neg ok]
    simp
/-! #### the text of an expression -/
def txT : Nat → S32 → List UInt8
  | 0, _ => []
  | m + 1, y =>
    if y.f0 = 0 then [99] ++ Lib.itoa y.f1
    else if y.f0 = 1 then vtext y.f2.f0 y.f2.f1 y.f2.f2.data.toList
    else if y.f0 = 2 then [40] ++ txT m (y.f4.getD 0 z32) ++ [32] ++ y.f3.data.toList ++ [32] ++ txT m (y.f4.getD 1 z32) ++ [41]
    else if y.f0 = 3 then [110, 111, 116, 40] ++ txT m (y.f4.getD 0 z32) ++ [41]
    else [105, 115, 110, 117, 108, 108, 40] ++ txT m (y.f4.getD 0 z32) ++ [41]
theorem opLen {op : ByteArray} (h : isOpB op = true) : op.data.toList.length ≤ 3 := by
  simp only [isOpB, opsL, List.any_cons, List.any_nil, Bool.or_false, Bool.or_eq_true, beq_iff_eq] at h
  rw [← toList_data]
  rcases h with h | h | h | h | h | h | h | h | h <;> (rw [← h, toList_data]; decide)
theorem locE_op {a n v0 v1 : Int} {v2 op : ByteArray} {c : Nat} (h : locE a n v0 v1 v2 op c = true) (h2 : a = 2) : isOpB op = true := by
  unfold locE at h
  rw [if_neg (by omega), if_neg (by omega), if_pos h2] at h
  simp only [Bool.and_eq_true] at h
  exact h.1.1.1
theorem locE_le {a n v0 v1 : Int} {v2 op : ByteArray} {c : Nat} (h : locE a n v0 v1 v2 op c = true) (h0 : a = 0) : 0 ≤ n ∧ n ≤ 11 := by
  unfold locE at h
  rw [if_pos h0] at h
  simp only [Bool.and_eq_true, decide_eq_true_eq] at h
  exact h.1.1.1
theorem txs_is : ∀ (m : Nat) (y : S32), m ≤ 20 → okE m y = true → goodI m y →
    (txT m y).length ≤ 1000 * 3 ^ m ∧ Ev (fun k => impl_expText.f k y.f0 y.f1 y.f2.f0 y.f2.f1 y.f2.f2 y.f3 y.f4) (mkB (txT m y)) ∧ Ev (fun k => spec_l03Text.f k y.f0 y.f1 y.f2.f0 y.f2.f1 y.f2.f2 y.f3 y.f4) (mkB (txT m y)) := by
  intro m
  induction m with
  | zero => intro y _ h _; cases h
  | succ m ih =>
    intro y hm h hg
    have loc := okE_loc h
    have hp : 1 ≤ 3 ^ m := Nat.one_le_pow _ _ (by omega)
    have hp2 : 3 ^ m ≤ 3 ^ 20 := Nat.pow_le_pow_right (by omega) (by omega)
    have hp3 : (3 : Nat) ^ 20 = 3486784401 := by decide
    have e3 : 1000 * 3 ^ (m + 1) = 3000 * 3 ^ m := by rw [Nat.pow_succ]; omega
    rw [e3]
    unfold txT
    by_cases a0 : y.f0 = 0
    · obtain ⟨n0, n1⟩ := locE_le loc a0
      have hi := itoa_len (b := y.f1) (by omega) (by omega)
      rw [if_pos a0]
      have hb : 1 + (mkB (Lib.itoa y.f1)).size ≤ 9223372036854775807 := by rw [mkB_size]; omega
      have he : (⟨#[99]⟩ : ByteArray) ++ mkB (Lib.itoa y.f1) = mkB ([99] ++ Lib.itoa y.f1) := mkB_append [99] _
      refine ⟨by simp; omega, Ev.step (fun k => rfl) (ev_if_pos a0 (ev_bind0 (implDecText_is y.f1 (by omega) (by omega)) (ev_if_pos hb (ev_conv (ev_some fun _ => rfl) he)))), Ev.step (fun k => rfl) (ev_if_pos a0 (Ev.bind (specDecText_is y.f1 (by omega) (by omega)) (ev_if_pos hb (ev_conv (ev_some fun _ => rfl) he))))⟩
    rw [if_neg a0]
    by_cases a1 : y.f0 = 1
    · have hv := vtext_len y.f2.f0 y.f2.f1 y.f2.f2.data.toList hg.1.1 hg.1.2.1
      rw [if_pos a1]
      exact ⟨by omega, Ev.step (fun k => rfl) (ev_if_neg a0 (ev_if_pos a1 (ev_bind0 (implValueText_is _ _ _ hg.1.1 hg.1.2.1) (ev_some fun _ => rfl)))), Ev.step (fun k => rfl) (ev_if_neg a0 (ev_if_pos a1 (Ev.bind (specValueText_is _ _ _ hg.1.1 hg.1.2.1) (ev_some fun _ => rfl))))⟩
    rw [if_neg a1]
    have kid : ∀ j, j < y.f4.length → okE m (y.f4.getD j z32) = true ∧ goodI m (y.f4.getD j z32) := fun j hj => ⟨okE_kid h (getD_mem _ hj), hg.2 _ (getD_mem _ hj)⟩
    by_cases a2 : y.f0 = 2
    · have hc := locE_two loc a2
      have ho := opLen (locE_op loc a2)
      have hoz := size_data y.f3
      rw [if_pos a2]
      obtain ⟨k0, g0⟩ := kid 0 (by omega)
      obtain ⟨k1, g1⟩ := kid 1 (by omega)
      obtain ⟨l0, i0, s0⟩ := ih _ (by omega) k0 g0
      obtain ⟨l1, i1, s1⟩ := ih _ (by omega) k1 g1
      generalize txT m (y.f4.getD 0 z32) = u at *
      generalize txT m (y.f4.getD 1 z32) = v at *
      have b1 : 1 + (mkB u).size ≤ 9223372036854775807 := by rw [mkB_size]; omega
      have q1 : (⟨#[40]⟩ : ByteArray) ++ mkB u = mkB ([40] ++ u) := mkB_append [40] u
      have q2 : mkB ([40] ++ u) ++ (⟨#[32]⟩ : ByteArray) = mkB ([40] ++ u ++ [32]) := mkB_append _ [32]
      have q3 : mkB ([40] ++ u ++ [32]) ++ y.f3 = mkB ([40] ++ u ++ [32] ++ y.f3.data.toList) := by
        have q := mkB_append ([40] ++ u ++ [32]) y.f3.data.toList
        rw [mkB_of] at q
        exact q
      have q4 : mkB ([40] ++ u ++ [32] ++ y.f3.data.toList) ++ (⟨#[32]⟩ : ByteArray) = mkB ([40] ++ u ++ [32] ++ y.f3.data.toList ++ [32]) := mkB_append _ [32]
      have q5 : mkB ([40] ++ u ++ [32] ++ y.f3.data.toList ++ [32]) ++ mkB v = mkB ([40] ++ u ++ [32] ++ y.f3.data.toList ++ [32] ++ v) := mkB_append _ v
      have q6 : mkB ([40] ++ u ++ [32] ++ y.f3.data.toList ++ [32] ++ v) ++ (⟨#[41]⟩ : ByteArray) = mkB ([40] ++ u ++ [32] ++ y.f3.data.toList ++ [32] ++ v ++ [41]) := mkB_append _ [41]
      refine ⟨by simp; omega, ?_, ?_⟩
      · refine Ev.step (fun k => rfl) (ev_if_neg a0 (ev_if_neg a1 (ev_if_pos a2 (ev_if_pos (by omega) (Ev.bind i0 (ev_if_pos b1 ?_))))))
        rw [q1]
        refine ev_if_pos (by rw [mkB_size]; simp; omega) ?_
        rw [q2]
        refine ev_if_pos (by rw [mkB_size]; simp; omega) ?_
        rw [q3]
        refine ev_if_pos (by rw [mkB_size]; simp; omega) (ev_if_pos (by omega) (Ev.bind i1 ?_))
        rw [q4]
        refine ev_if_pos (by rw [mkB_size, mkB_size]; simp; omega) ?_
        rw [q5]
        refine ev_if_pos (by rw [mkB_size]; simp; omega) ?_
        rw [q6]
        exact ev_some fun _ => rfl
      · refine Ev.step (fun k => rfl) (ev_if_neg a0 (ev_if_neg a1 (ev_if_pos a2 (ev_if_pos (by omega) (Ev.bind s0 (ev_if_pos b1 ?_))))))
        rw [q1]
        refine ev_if_pos (by rw [mkB_size]; simp; omega) ?_
        rw [q2]
        refine ev_if_pos (by rw [mkB_size]; simp; omega) ?_
        rw [q3]
        refine ev_if_pos (by rw [mkB_size]; simp; omega) (ev_if_pos (by omega) (Ev.bind s1 ?_))
        rw [q4]
        refine ev_if_pos (by rw [mkB_size, mkB_size]; simp; omega) ?_
        rw [q5]
        refine ev_if_pos (by rw [mkB_size]; simp; omega) ?_
        rw [q6]
        exact ev_some fun _ => rfl
    rw [if_neg a2]
    have hc := locE_one loc a0 a1 a2
    obtain ⟨k0, g0⟩ := kid 0 (by omega)
    obtain ⟨l0, i0, s0⟩ := ih _ (by omega) k0 g0
    generalize txT m (y.f4.getD 0 z32) = u at *
    by_cases a3 : y.f0 = 3
    · rw [if_pos a3]
      have b1 : 4 + (mkB u).size ≤ 9223372036854775807 := by rw [mkB_size]; omega
      have q1 : (⟨#[110, 111, 116, 40]⟩ : ByteArray) ++ mkB u = mkB ([110, 111, 116, 40] ++ u) := mkB_append [110, 111, 116, 40] u
      have b2 : ((⟨#[110, 111, 116, 40]⟩ : ByteArray) ++ mkB u).size + 1 ≤ 9223372036854775807 := by rw [q1, mkB_size]; simp; omega
      have q2 : ((⟨#[110, 111, 116, 40]⟩ : ByteArray) ++ mkB u) ++ (⟨#[41]⟩ : ByteArray) = mkB ([110, 111, 116, 40] ++ u ++ [41]) := by rw [q1]; exact mkB_append _ [41]
      exact ⟨by simp; omega, Ev.step (fun k => rfl) (ev_if_neg a0 (ev_if_neg a1 (ev_if_neg a2 (ev_if_pos a3 (ev_if_pos (by omega) (Ev.bind i0 (ev_if_pos b1 (ev_if_pos b2 (ev_conv (ev_some fun _ => rfl) q2))))))))), Ev.step (fun k => rfl) (ev_if_neg a0 (ev_if_neg a1 (ev_if_neg a2 (ev_if_pos a3 (ev_if_pos (by omega) (Ev.bind s0 (ev_if_pos b1 (ev_if_pos b2 (ev_conv (ev_some fun _ => rfl) q2)))))))))⟩
    · rw [if_neg a3]
      have b1 : 7 + (mkB u).size ≤ 9223372036854775807 := by rw [mkB_size]; omega
      have q1 : (⟨#[105, 115, 110, 117, 108, 108, 40]⟩ : ByteArray) ++ mkB u = mkB ([105, 115, 110, 117, 108, 108, 40] ++ u) := mkB_append [105, 115, 110, 117, 108, 108, 40] u
      have b2 : ((⟨#[105, 115, 110, 117, 108, 108, 40]⟩ : ByteArray) ++ mkB u).size + 1 ≤ 9223372036854775807 := by rw [q1, mkB_size]; simp; omega
      have q2 : ((⟨#[105, 115, 110, 117, 108, 108, 40]⟩ : ByteArray) ++ mkB u) ++ (⟨#[41]⟩ : ByteArray) = mkB ([105, 115, 110, 117, 108, 108, 40] ++ u ++ [41]) := by rw [q1]; exact mkB_append _ [41]
      exact ⟨by simp; omega, Ev.step (fun k => rfl) (ev_if_neg a0 (ev_if_neg a1 (ev_if_neg a2 (ev_if_neg a3 (ev_if_pos (by omega) (Ev.bind i0 (ev_if_pos b1 (ev_if_pos b2 (ev_conv (ev_some fun _ => rfl) q2))))))))), Ev.step (fun k => rfl) (ev_if_neg a0 (ev_if_neg a1 (ev_if_neg a2 (ev_if_neg a3 (ev_if_pos (by omega) (Ev.bind s0 (ev_if_pos b1 (ev_if_pos b2 (ev_conv (ev_some fun _ => rfl) q2)))))))))⟩
def etext (y : S32) : List UInt8 := if okE 13 y = true then txT 13 y else []
theorem etext_len (y : S32) (hg : goodI 13 y) : (etext y).length ≤ 1594323000 := by
  unfold etext
  cases h : okE 13 y with
  | true =>
    rw [if_pos rfl]
    have := (txs_is 13 y (by omega) h hg).1
    have e : (3 : Nat) ^ 13 = 1594323 := by decide
    omega
  | false => simp
theorem implExpText_is (y : S32) (hs : shortI 13 y) (hg : goodI 13 y) : Ev (fun k => impl_ExpText.f k y.f0 y.f1 y.f2.f0 y.f2.f1 y.f2.f2 y.f3 y.f4) (mkB (etext y)) := by
  refine Ev.congr (fun k => rfl) (Ev.bind (impl_expOk_is y hs) ?_)
  unfold etext
  cases h : okE 13 y with
  | true => exact ev_if_pos rfl (ev_conv (Ev.bind (txs_is 13 y (by omega) h hg).2.1 (ev_some fun _ => rfl)) (by rw [if_pos rfl]))
  | false => exact ev_if_neg (by simp) (ev_conv (ev_some fun _ => rfl) (by rw [if_neg (by simp)]; rfl))
theorem specExpText_is (y : S32) (hs : shortI 13 y) (hg : goodI 13 y) : Ev (fun k => spec_ExpText.f k y.f0 y.f1 y.f2.f0 y.f2.f1 y.f2.f2 y.f3 y.f4) (mkB (etext y)) := by
  refine Ev.congr (fun k => rfl) (Ev.bind (spec_expOk_is y hs) ?_)
  unfold etext
  cases h : okE 13 y with
  | true => exact ev_if_pos rfl (ev_conv (Ev.bind (txs_is 13 y (by omega) h hg).2.2 (ev_some fun _ => rfl)) (by rw [if_pos rfl]))
  | false => exact ev_if_neg (by simp) (ev_conv (ev_some fun _ => rfl) (by rw [if_neg (by simp)]; rfl))
/-! #### plans: how great, and copies -/
theorem okEN_mono : ∀ (n m : Nat) (x : S26), n ≤ m → okEN n x → okEN m x
  | 0, _, _, _, h => h.elim
  | n + 1, 0, _, hm, _ => absurd hm (by omega)
  | n + 1, m + 1, x, hm, h => ⟨h.1, h.2.1, h.2.2.1, fun y hy => okEN_mono n m y (by omega) (h.2.2.2 y hy)⟩
theorem lft_sub {l : Int} {w r : Nat} (h : (w : Int) ≤ l) : lft l (w + r) = lft (l - w) r := by
  by_cases g : (r : Int) ≤ l - w
  · rw [lft_of_le g, lft_of_le (by omega)]
    omega
  · rw [lft_of_gt g, lft_of_gt (by omega)]
theorem lft_step {l : Int} {w rest : Nat} (h0 : 0 ≤ l) (f : Int → Option Int) (hf : (w : Int) ≤ l → f (l - w) = some (lft (l - w) rest)) : ((some (lft l w)).bind fun t => if t < 0 then some (-1) else f t) = some (lft l (w + rest)) := by
  rw [Option.bind_some]
  by_cases h : (w : Int) ≤ l
  · rw [lft_of_le h, if_neg (by omega), hf h, lft_sub h]
  · rw [lft_of_gt h, if_pos (by omega), lft_of_gt (by omega)]
theorem szExpS_is (e : Nat) (xs : List S26) (hn : xs.length ≤ 9223372036854775807) (h : ∀ y ∈ xs, okEN e y) : ∃ K, ∀ k, K ≤ k → ∀ l, 0 ≤ l → l ≤ 1048576 → laws_szExpS.f (laws_szExp.f k) k xs l = some (lft l (xs.length + (xs.map (wtEN e)).sum)) := by
  obtain ⟨K, hK⟩ := ev_all (xs := xs) (P := fun k y => ∀ l, 0 ≤ l → l ≤ 1048576 → laws_szExp.f k y.f0 y.f1 y.f2.f0 y.f2.f1 y.f2.f2 y.f3 y.f4 l = some (lft l (wtEN e y))) fun y hy => szExp_is e y (h y hy)
  exact ⟨max K (xs.length + 1), fun k hk l h0 h1 => szk_list z26 (laws_szExpS.f (laws_szExp.f k)) (laws_szExpS.l0 (laws_szExp.f k)) (fun y l => laws_szExp.f k y.f0 y.f1 y.f2.f0 y.f2.f1 y.f2.f2 y.f3 y.f4 l) (wtEN e) (fun _ _ _ => rfl) (fun _ _ _ _ => rfl) xs hn (fun y hy l a b => hK k (by omega) y hy l a b) k (by omega) l h0 h1⟩
def okP (e : Nat) : Nat → S65 → Prop
  | 0, _ => False
  | n + 1, x => x.f1.size ≤ 9223372036854775807 ∧ okEN e x.f2 ∧ x.f3.length ≤ 9223372036854775807 ∧ (∀ y ∈ x.f3, okEN e y) ∧ x.f5.length ≤ 9223372036854775807 ∧ ∀ y ∈ x.f5, okP e n y
def wtP (e : Nat) : Nat → S65 → Nat
  | 0, _ => 0
  | n + 1, x => x.f1.size + (wtEN e x.f2 + ((x.f3.length + (x.f3.map (wtEN e)).sum) + (x.f5.length + (x.f5.map (wtP e n)).sum)))
theorem szPlan_is (e : Nat) : ∀ (n : Nat) (x : S65), okP e n x → ∃ K, ∀ k, K ≤ k → ∀ l, 0 ≤ l → l ≤ 1048576 → laws_szPlan.f k x.f0 x.f1 x.f2.f0 x.f2.f1 x.f2.f2.f0 x.f2.f2.f1 x.f2.f2.f2 x.f2.f3 x.f2.f4 x.f3 x.f4 x.f5 l = some (lft l (wtP e n x))
  | 0, _, h => h.elim
  | n + 1, x, h => by
    obtain ⟨h1, h2, h3, h3', h5, h5'⟩ := h
    obtain ⟨K, hK⟩ := ev_all (xs := x.f5) (P := fun k y => ∀ l, 0 ≤ l → l ≤ 1048576 → laws_szPlan.f k y.f0 y.f1 y.f2.f0 y.f2.f1 y.f2.f2.f0 y.f2.f2.f1 y.f2.f2.f2 y.f2.f3 y.f2.f4 y.f3 y.f4 y.f5 l = some (lft l (wtP e n y))) fun y hy => szPlan_is e n y (h5' y hy)
    obtain ⟨K2, hK2⟩ := szExp_is e x.f2 h2
    obtain ⟨K3, hK3⟩ := szExpS_is e x.f3 h3 h3'
    refine ⟨max (max K K2) (max K3 (x.f5.length + 1)) + 1, fun k hk l h0 hl => ?_⟩
    obtain ⟨k, rfl⟩ : ∃ m, k = m + 1 := ⟨k - 1, by omega⟩
    show (if wrap64 (l - (x.f1.size : Int)) < 0 then some (-1) else _) = _
    rw [wrap_id (x := l - (x.f1.size : Int)) (by omega) (by omega)]
    unfold wtP
    by_cases a : (x.f1.size : Int) ≤ l
    · rw [if_neg (by omega), hK2 k (by omega) _ (by omega) (by omega), lft_sub a]
      refine lft_step (by omega) _ (fun b => ?_)
      rw [hK3 k (by omega) _ (by omega) (by omega)]
      refine lft_step (by omega) _ (fun c => ?_)
      rw [szk_list z65 (laws_szPlanS.f (laws_szPlan.f k)) (laws_szPlanS.l0 (laws_szPlan.f k)) (fun y l => laws_szPlan.f k y.f0 y.f1 y.f2.f0 y.f2.f1 y.f2.f2.f0 y.f2.f2.f1 y.f2.f2.f2 y.f2.f3 y.f2.f4 y.f3 y.f4 y.f5 l) (wtP e n) (fun _ _ _ => rfl) (fun _ _ _ _ => rfl) x.f5 h5 (fun y hy l a b => hK k (by omega) y hy l a b) k (by omega) _ (by omega) (by omega)]
      exact lft_step (rest := 0) (by omega) some (fun d => by rw [lft_of_le (by omega)]; simp)
    · rw [if_pos (by omega), lft_of_gt (by omega)]
theorem wtP_kid {e n : Nat} {x y : S65} {b : Nat} (h : wtP e (n + 1) x ≤ b) (hy : y ∈ x.f5) : wtP e n y ≤ b := by
  have := sum_le_of_mem0 (wtP e n) hy
  unfold wtP at h
  omega
theorem wtP_parts {e n : Nat} {x : S65} {b : Nat} (h : wtP e (n + 1) x ≤ b) : wtEN e x.f2 ≤ b ∧ x.f3.length ≤ b ∧ x.f5.length ≤ b ∧ ∀ y ∈ x.f3, wtEN e y ≤ b := by
  unfold wtP at h
  refine ⟨by omega, by omega, by omega, fun y hy => ?_⟩
  have := sum_le_of_mem0 (wtEN e) hy
  omega
theorem toExpS_is (e : Nat) (xs : List S26) (hn : xs.length ≤ 1048576) (h : ∀ y ∈ xs, okEN e y) (hw : ∀ y ∈ xs, wtEN e y ≤ 1048576) : ∃ K, ∀ k, K ≤ k → laws_toExpS.f (laws_toExp.f k) k xs = some (xs.map (toEN e)) := by
  obtain ⟨K, hK⟩ := ev_all (xs := xs) (P := fun k y => laws_toExp.f k y.f0 y.f1 y.f2.f0 y.f2.f1 y.f2.f2 y.f3 y.f4 = some ((toEN e y).f0, (toEN e y).f1, (toEN e y).f2.f0, (toEN e y).f2.f1, (toEN e y).f2.f2, (toEN e y).f3, (toEN e y).f4)) fun y hy => toExp_is e y (h y hy) (hw y hy)
  refine ⟨max K (xs.length + 1), fun k hk => ?_⟩
  rw [mapk_list z26 z32 (laws_toExpS.f (laws_toExp.f k)) (laws_toExpS.l0 (laws_toExp.f k)) (fun y => laws_toExp.f k y.f0 y.f1 y.f2.f0 y.f2.f1 y.f2.f2 y.f3 y.f4) (fun bt => (⟨bt.1, bt.2.1, (⟨bt.2.2.1, bt.2.2.2.1, bt.2.2.2.2.1⟩ : S29), bt.2.2.2.2.2.1, bt.2.2.2.2.2.2⟩ : S32)) (fun y => ((toEN e y).f0, (toEN e y).f1, (toEN e y).f2.f0, (toEN e y).f2.f1, (toEN e y).f2.f2, (toEN e y).f3, (toEN e y).f4)) 3198579280802 (fun _ _ => rfl) (fun _ _ _ _ => rfl) xs (by omega) (by omega) (fun y hy => hK k (by omega) y hy) k (by omega)]
  have hm : ∀ y : S32, (⟨y.f0, y.f1, (⟨y.f2.f0, y.f2.f1, y.f2.f2⟩ : S29), y.f3, y.f4⟩ : S32) = y := fun y => by cases y; rfl
  exact congrArg some (List.map_congr_left fun y _ => hm (toEN e y))
def toPN (e : Nat) : Nat → S65 → S70
  | 0, _ => z70
  | n + 1, x => ⟨x.f0, x.f1, toEN e x.f2, x.f3.map (toEN e), x.f4, x.f5.map (toPN e n)⟩
theorem toPlan_is (e : Nat) : ∀ (n : Nat) (x : S65), okP e n x → wtP e n x ≤ 1048576 → ∃ K, ∀ k, K ≤ k → laws_toPlan.f k x.f0 x.f1 x.f2.f0 x.f2.f1 x.f2.f2.f0 x.f2.f2.f1 x.f2.f2.f2 x.f2.f3 x.f2.f4 x.f3 x.f4 x.f5 = some ((toPN e n x).f0, (toPN e n x).f1, (toPN e n x).f2.f0, (toPN e n x).f2.f1, (toPN e n x).f2.f2.f0, (toPN e n x).f2.f2.f1, (toPN e n x).f2.f2.f2, (toPN e n x).f2.f3, (toPN e n x).f2.f4, (toPN e n x).f3, (toPN e n x).f4, (toPN e n x).f5)
  | 0, _, h, _ => h.elim
  | n + 1, x, h, hw => by
    obtain ⟨h1, h2, h3, h3', h5, h5'⟩ := h
    obtain ⟨w2, w3, w5, w3'⟩ := wtP_parts hw
    obtain ⟨K, hK⟩ := ev_all (xs := x.f5) (P := fun k y => laws_toPlan.f k y.f0 y.f1 y.f2.f0 y.f2.f1 y.f2.f2.f0 y.f2.f2.f1 y.f2.f2.f2 y.f2.f3 y.f2.f4 y.f3 y.f4 y.f5 = some ((toPN e n y).f0, (toPN e n y).f1, (toPN e n y).f2.f0, (toPN e n y).f2.f1, (toPN e n y).f2.f2.f0, (toPN e n y).f2.f2.f1, (toPN e n y).f2.f2.f2, (toPN e n y).f2.f3, (toPN e n y).f2.f4, (toPN e n y).f3, (toPN e n y).f4, (toPN e n y).f5)) fun y hy => toPlan_is e n y (h5' y hy) (wtP_kid hw hy)
    obtain ⟨K2, hK2⟩ := toExp_is e x.f2 h2 w2
    obtain ⟨K3, hK3⟩ := toExpS_is e x.f3 w3 h3' w3'
    refine ⟨max (max K K2) (max K3 (x.f5.length + 1)) + 1, fun k hk => ?_⟩
    obtain ⟨k, rfl⟩ : ∃ m, k = m + 1 := ⟨k - 1, by omega⟩
    show ((laws_toExp.f k x.f2.f0 x.f2.f1 x.f2.f2.f0 x.f2.f2.f1 x.f2.f2.f2 x.f2.f3 x.f2.f4).bind _) = _
    rw [hK2 k (by omega), Option.bind_some, hK3 k (by omega), Option.bind_some]
    rw [mapk_list z65 z70 (laws_toPlanS.f (laws_toPlan.f k)) (laws_toPlanS.l0 (laws_toPlan.f k)) (fun y => laws_toPlan.f k y.f0 y.f1 y.f2.f0 y.f2.f1 y.f2.f2.f0 y.f2.f2.f1 y.f2.f2.f2 y.f2.f3 y.f2.f4 y.f3 y.f4 y.f5) (fun bt => (⟨bt.1, bt.2.1, (⟨bt.2.2.1, bt.2.2.2.1, (⟨bt.2.2.2.2.1, bt.2.2.2.2.2.1, bt.2.2.2.2.2.2.1⟩ : S29), bt.2.2.2.2.2.2.2.1, bt.2.2.2.2.2.2.2.2.1⟩ : S32), bt.2.2.2.2.2.2.2.2.2.1, bt.2.2.2.2.2.2.2.2.2.2.1, bt.2.2.2.2.2.2.2.2.2.2.2⟩ : S70)) (fun y => ((toPN e n y).f0, (toPN e n y).f1, (toPN e n y).f2.f0, (toPN e n y).f2.f1, (toPN e n y).f2.f2.f0, (toPN e n y).f2.f2.f1, (toPN e n y).f2.f2.f2, (toPN e n y).f2.f3, (toPN e n y).f2.f4, (toPN e n y).f3, (toPN e n y).f4, (toPN e n y).f5)) 1675446289944 (fun _ _ => rfl) (fun _ _ _ _ => rfl) x.f5 (by omega) (by omega) (fun y hy => hK k (by omega) y hy) k (by omega), Option.bind_some]
    have hm : ∀ y : S70, (⟨y.f0, y.f1, (⟨y.f2.f0, y.f2.f1, (⟨y.f2.f2.f0, y.f2.f2.f1, y.f2.f2.f2⟩ : S29), y.f2.f3, y.f2.f4⟩ : S32), y.f3, y.f4, y.f5⟩ : S70) = y := fun y => by
      cases y with
      | mk a b c d e f => cases c; rfl
    have he : toPN e (n + 1) x = ⟨x.f0, x.f1, toEN e x.f2, x.f3.map (toEN e), x.f4, x.f5.map (toPN e n)⟩ := by simp only [toPN]
    rw [he]
    exact congrArg (fun l => some (x.f0, x.f1, (toEN e x.f2).f0, (toEN e x.f2).f1, (toEN e x.f2).f2.f0, (toEN e x.f2).f2.f1, (toEN e x.f2).f2.f2, (toEN e x.f2).f3, (toEN e x.f2).f4, x.f3.map (toEN e), x.f4, l)) (List.map_congr_left fun y _ => hm (toPN e n y))
theorem eqExpS_refl (e : Nat) (xs : List S26) (hn : xs.length ≤ 1048576) (h : ∀ y ∈ xs, okEN e y) (hw : ∀ y ∈ xs, wtEN e y ≤ 1048576) : ∃ K, ∀ k, K ≤ k → laws_eqExpS.f (laws_eqExp.f k) k (xs.map (toEN e)) (xs.map (toEN e)) = some true := by
  obtain ⟨K, hK⟩ := ev_all (xs := xs) (P := fun k y => laws_eqExp.f k (toEN e y).f0 (toEN e y).f1 (toEN e y).f2.f0 (toEN e y).f2.f1 (toEN e y).f2.f2 (toEN e y).f3 (toEN e y).f4 (toEN e y).f0 (toEN e y).f1 (toEN e y).f2.f0 (toEN e y).f2.f1 (toEN e y).f2.f2 (toEN e y).f3 (toEN e y).f4 = some true) fun y hy => eqExp_refl e y (h y hy) (hw y hy)
  refine ⟨max K (xs.length + 1), fun k hk => ?_⟩
  exact eqk_list z32 (laws_eqExpS.f (laws_eqExp.f k)) (laws_eqExpS.l0 (laws_eqExp.f k)) (fun y z => laws_eqExp.f k y.f0 y.f1 y.f2.f0 y.f2.f1 y.f2.f2 y.f3 y.f4 z.f0 z.f1 z.f2.f0 z.f2.f1 z.f2.f2 z.f3 z.f4) (fun _ _ _ => rfl) (fun _ _ _ _ => rfl) (xs.map (toEN e)) (by rw [List.length_map]; omega) (fun y hy => by
      obtain ⟨u, hu, rfl⟩ := List.mem_map.1 hy
      exact hK k (by omega) u hu) k (by rw [List.length_map]; omega)
theorem eqPlan_refl (e : Nat) : ∀ (n : Nat) (x : S65), okP e n x → wtP e n x ≤ 1048576 → ∃ K, ∀ k, K ≤ k → laws_eqPlan.f k (toPN e n x).f0 (toPN e n x).f1 (toPN e n x).f2.f0 (toPN e n x).f2.f1 (toPN e n x).f2.f2.f0 (toPN e n x).f2.f2.f1 (toPN e n x).f2.f2.f2 (toPN e n x).f2.f3 (toPN e n x).f2.f4 (toPN e n x).f3 (toPN e n x).f4 (toPN e n x).f5 (toPN e n x).f0 (toPN e n x).f1 (toPN e n x).f2.f0 (toPN e n x).f2.f1 (toPN e n x).f2.f2.f0 (toPN e n x).f2.f2.f1 (toPN e n x).f2.f2.f2 (toPN e n x).f2.f3 (toPN e n x).f2.f4 (toPN e n x).f3 (toPN e n x).f4 (toPN e n x).f5 = some true
  | 0, _, h, _ => h.elim
  | n + 1, x, h, hw => by
    obtain ⟨h1, h2, h3, h3', h5, h5'⟩ := h
    obtain ⟨w2, w3, w5, w3'⟩ := wtP_parts hw
    obtain ⟨K, hK⟩ := ev_all (xs := x.f5) (P := fun k x => laws_eqPlan.f k (toPN e n x).f0 (toPN e n x).f1 (toPN e n x).f2.f0 (toPN e n x).f2.f1 (toPN e n x).f2.f2.f0 (toPN e n x).f2.f2.f1 (toPN e n x).f2.f2.f2 (toPN e n x).f2.f3 (toPN e n x).f2.f4 (toPN e n x).f3 (toPN e n x).f4 (toPN e n x).f5 (toPN e n x).f0 (toPN e n x).f1 (toPN e n x).f2.f0 (toPN e n x).f2.f1 (toPN e n x).f2.f2.f0 (toPN e n x).f2.f2.f1 (toPN e n x).f2.f2.f2 (toPN e n x).f2.f3 (toPN e n x).f2.f4 (toPN e n x).f3 (toPN e n x).f4 (toPN e n x).f5 = some true) fun y hy => eqPlan_refl e n y (h5' y hy) (wtP_kid hw hy)
    obtain ⟨K2, hK2⟩ := eqExp_refl e x.f2 h2 w2
    obtain ⟨K3, hK3⟩ := eqExpS_refl e x.f3 w3 h3' w3'
    refine ⟨max (max K K2) (max K3 (x.f5.length + 1)) + 1, fun k hk => ?_⟩
    obtain ⟨k, rfl⟩ : ∃ m, k = m + 1 := ⟨k - 1, by omega⟩
    have q := eqk_list z70 (laws_eqPlanS.f (laws_eqPlan.f k)) (laws_eqPlanS.l0 (laws_eqPlan.f k)) (fun y z => laws_eqPlan.f k y.f0 y.f1 y.f2.f0 y.f2.f1 y.f2.f2.f0 y.f2.f2.f1 y.f2.f2.f2 y.f2.f3 y.f2.f4 y.f3 y.f4 y.f5 z.f0 z.f1 z.f2.f0 z.f2.f1 z.f2.f2.f0 z.f2.f2.f1 z.f2.f2.f2 z.f2.f3 z.f2.f4 z.f3 z.f4 z.f5) (fun _ _ _ => rfl) (fun _ _ _ _ => rfl) (x.f5.map (toPN e n)) (by rw [List.length_map]; omega) (fun y hy => by
      obtain ⟨u, hu, rfl⟩ := List.mem_map.1 hy
      exact hK k (by omega) u hu) k (by rw [List.length_map]; omega)
    have he : toPN e (n + 1) x = ⟨x.f0, x.f1, toEN e x.f2, x.f3.map (toEN e), x.f4, x.f5.map (toPN e n)⟩ := by simp only [toPN]
    rw [he]
    show (if x.f0 = x.f0 then (if x.f1.toList = x.f1.toList then _ else _) else _) = _
    rw [if_pos rfl, if_pos rfl, hK2 k (by omega), Option.bind_some, if_pos rfl, hK3 k (by omega), Option.bind_some, if_pos rfl]
    show (if x.f4 = x.f4 then _ else _) = _
    rw [if_pos rfl, q]
    rfl
/-! #### how long the text of an expression is, by its size -/
theorem sum_map_le {α : Type} {f g : α → Nat} : ∀ {l : List α}, (∀ x ∈ l, f x ≤ g x) → (l.map f).sum ≤ (l.map g).sum
  | [], _ => Nat.le_refl _
  | x :: l, h => by
    rw [List.map_cons, List.map_cons, List.sum_cons, List.sum_cons]
    have := h x (by simp)
    have := sum_map_le (l := l) (f := f) (g := g) fun y hy => h y (by simp [hy])
    omega
theorem sum_map_mul {α : Type} (c : Nat) (f : α → Nat) : ∀ (l : List α), (l.map fun x => c * (1 + f x)).sum = c * (l.length + (l.map f).sum)
  | [] => by simp
  | x :: l => by
    rw [List.map_cons, List.map_cons, List.sum_cons, List.sum_cons, sum_map_mul c f l, List.length_cons, ← Nat.mul_add]
    congr 1
    omega
def wtIE : Nat → S32 → Nat
  | 0, _ => 0
  | m + 1, y => y.f4.length + (y.f4.map (wtIE m)).sum
theorem wtIE_z : ∀ m, wtIE m z32 = 0
  | 0 => rfl
  | _ + 1 => rfl
theorem wtIE_to : ∀ (n m : Nat) (x : S26), wtIE m (toEN n x) ≤ wtEN n x
  | 0, m, _ => by rw [show wtIE m (toEN 0 _) = 0 from wtIE_z m]; exact Nat.zero_le _
  | _ + 1, 0, _ => Nat.zero_le _
  | n + 1, m + 1, x => by
    show (x.f4.map (toEN n)).length + ((x.f4.map (toEN n)).map (wtIE m)).sum ≤ _
    rw [List.length_map, List.map_map]
    have := sum_map_le (l := x.f4) (f := wtIE m ∘ toEN n) (g := wtEN n) fun y _ => wtIE_to n m y
    unfold wtEN
    omega
theorem two_of {α : Type} (d : α) {l : List α} (h : l.length = 2) : l = [l.getD 0 d, l.getD 1 d] := by
  match l, h with
  | [a, b], _ => rfl
theorem one_of {α : Type} (d : α) {l : List α} (h : l.length = 1) : l = [l.getD 0 d] := by
  match l, h with
  | [a], _ => rfl
theorem txT_len : ∀ (m : Nat) (y : S32), okE m y = true → goodI m y → (txT m y).length + 2 ≤ 320 * (1 + wtIE m y) := by
  intro m
  induction m with
  | zero => intro y h _; cases h
  | succ m ih =>
    intro y h hg
    have loc := okE_loc h
    unfold txT wtIE
    by_cases a0 : y.f0 = 0
    · obtain ⟨n0, n1⟩ := locE_le loc a0
      have hi := itoa_len (b := y.f1) (by omega) (by omega)
      rw [if_pos a0]
      simp
      omega
    rw [if_neg a0]
    by_cases a1 : y.f0 = 1
    · have hv := vtext_len y.f2.f0 y.f2.f1 y.f2.f2.data.toList hg.1.1 hg.1.2.1
      rw [if_pos a1]
      omega
    rw [if_neg a1]
    have kid : ∀ j, j < y.f4.length → (txT m (y.f4.getD j z32)).length + 2 ≤ 320 * (1 + wtIE m (y.f4.getD j z32)) := fun j hj => ih _ (okE_kid h (getD_mem _ hj)) (hg.2 _ (getD_mem _ hj))
    by_cases a2 : y.f0 = 2
    · have hc := locE_two loc a2
      have ho := opLen (locE_op loc a2)
      have k0 := kid 0 (by omega)
      have k1 := kid 1 (by omega)
      have e2 : (y.f4.map (wtIE m)).sum = wtIE m (y.f4.getD 0 z32) + wtIE m (y.f4.getD 1 z32) := by
        conv => lhs; rw [two_of z32 hc]
        simp
      rw [if_pos a2, e2, hc]
      simp only [List.length_append, List.length_cons, List.length_nil]
      omega
    rw [if_neg a2]
    have hc := locE_one loc a0 a1 a2
    have k0 := kid 0 (by omega)
    have e1 : (y.f4.map (wtIE m)).sum = wtIE m (y.f4.getD 0 z32) := by
      conv => lhs; rw [one_of z32 hc]
      simp
    rw [e1, hc]
    by_cases a3 : y.f0 = 3
    · rw [if_pos a3]
      simp only [List.length_append, List.length_cons, List.length_nil]
      omega
    · rw [if_neg a3]
      simp only [List.length_append, List.length_cons, List.length_nil]
      omega
theorem etext_short (y : S32) (hg : goodI 13 y) : (etext y).length + 2 ≤ 320 * (1 + wtIE 13 y) := by
  unfold etext
  cases h : okE 13 y with
  | true =>
    rw [if_pos rfl]
    exact txT_len 13 y h hg
  | false =>
    rw [if_neg (by simp)]
    simp
    omega
/-! #### texts joined -/
theorem join_snoc (xs : List (List UInt8)) (x sep : List UInt8) : Lib.join (xs ++ [x]) sep = (if xs = [] then [] else Lib.join xs sep ++ sep) ++ x := by
  cases xs with
  | nil => rw [if_pos rfl, List.nil_append, List.nil_append, Lib.join_one]
  | cons y r =>
    rw [if_neg (by simp), List.cons_append, Lib.join_cons, Lib.join_cons]
    simp [Lib.joinTail]
theorem join_le : ∀ (xs : List (List UInt8)), (Lib.join xs [44, 32]).length ≤ (xs.map fun y => y.length + 2).sum := by
  refine snoc_ind ?_ ?_
  · simp [Lib.join_nil]
  · intro l a h
    rw [join_snoc, List.map_append, List.sum_append]
    by_cases e : l = []
    · rw [if_pos e]
      simp
      omega
    · rw [if_neg e]
      simp only [List.length_append, List.length_cons, List.length_nil, List.map_cons, List.map_nil, List.sum_cons, List.sum_nil]
      omega
theorem sum_take_le {α : Type} (f : α → Nat) (l : List α) (i : Nat) : ((l.take i).map f).sum ≤ (l.map f).sum := by
  conv => rhs; rw [← List.take_append_drop i l]
  rw [List.map_append, List.sum_append]
  omega
theorem take_snoc {α : Type} (d : α) {l : List α} {i : Nat} (h : i < l.length) : l.take (i + 1) = l.take i ++ [l.getD i d] := by
  rw [List.take_add_one, List.getElem?_eq_getElem h, List.getD_eq_getElem?_getD, List.getElem?_eq_getElem h]
  rfl
theorem join_take {α : Type} (d : α) (tx : α → List UInt8) {xs : List α} {i : Nat} (h : i < xs.length) : Lib.join ((xs.take (i + 1)).map tx) [44, 32] = (if i = 0 then [] else Lib.join ((xs.take i).map tx) [44, 32] ++ [44, 32]) ++ tx (xs.getD i d) := by
  rw [take_snoc d h, List.map_append, List.map_cons, List.map_nil, join_snoc]
  congr 1
  by_cases e : i = 0
  · rw [if_pos e, if_pos (by rw [e]; rfl)]
  · rw [if_neg e, if_neg (fun g => ?_)]
    have := congrArg List.length (List.map_eq_nil_iff.1 g)
    rw [List.length_take, List.length_nil] at this
    omega
/-- The reference's loop: a separator ahead of each but the first. -/
theorem join_loop {α β : Type} (d : α) (L : Nat → ByteArray → Int → Option β) (E : Nat → α → Option ByteArray) (F : Nat → ByteArray → Option β) (tx : α → List UInt8) (xs : List α) (pre : List UInt8) (r : β)
    (hL : ∀ k acc i, L (k + 1) acc i = if i < (xs.length : Int) then (if i > 0 then (if acc.size + 2 ≤ 9223372036854775807 then (if 0 ≤ i then ((E k (xs.getD i.toNat d)).bind fun t => if (acc ++ (⟨#[44, 32]⟩ : ByteArray)).size + t.size ≤ 9223372036854775807 then L k ((acc ++ (⟨#[44, 32]⟩ : ByteArray)) ++ t) (wrap64 (i + 1)) else none) else none) else none) else (if 0 ≤ i then ((E k (xs.getD i.toNat d)).bind fun t => if acc.size + t.size ≤ 9223372036854775807 then L k (acc ++ t) (wrap64 (i + 1)) else none) else none)) else F k acc)
    (hn : xs.length ≤ 1048576) (hE : ∀ x ∈ xs, Ev (fun k => E k x) (mkB (tx x))) (hb : pre.length + (xs.map fun x => (tx x).length + 2).sum ≤ 2305843009213693952)
    (hF : Ev (fun k => F k (mkB (pre ++ Lib.join (xs.map tx) [44, 32]))) r) :
    ∀ (n i : Nat), xs.length - i = n → i ≤ xs.length → Ev (fun k => L k (mkB (pre ++ Lib.join ((xs.take i).map tx) [44, 32])) i) r := by
  have hlen : ∀ i, (Lib.join ((xs.take i).map tx) [44, 32]).length ≤ (xs.map fun x => (tx x).length + 2).sum := fun i => by
    refine Nat.le_trans (join_le _) ?_
    rw [List.map_map]
    exact sum_take_le (fun x => (tx x).length + 2) xs i
  intro n
  induction n with
  | zero =>
    intro i h1 h2
    refine Ev.step (fun k => hL k _ _) (ev_if_neg (by omega) ?_)
    rw [List.take_of_length_le (by omega)]
    exact hF
  | succ n ih =>
    intro i h1 h2
    have hi : i < xs.length := by omega
    have hs := ih (i + 1) (by omega) (by omega)
    have hx : (tx (xs.getD i d)).length + 2 ≤ (xs.map fun x => (tx x).length + 2).sum := sum_le_of_mem0 (fun x => (tx x).length + 2) (getD_mem d hi)
    have hl := hlen i
    rw [join_take d tx hi] at hs
    have hw : wrap64 ((i : Int) + 1) = ((i + 1 : Nat) : Int) := wrap_succ hi (by omega)
    refine Ev.step (fun k => hL k _ _) (ev_if_pos (by omega) ?_)
    rw [Int.toNat_natCast, hw]
    by_cases e : i = 0
    · rw [if_pos e] at hs
      refine ev_if_neg (by omega) (ev_if_pos (by omega) (Ev.bind (hE _ (getD_mem d hi)) (ev_if_pos (by rw [mkB_size, mkB_size, List.length_append]; omega) ?_)))
      rw [mkB_append, e]
      rw [e] at hs
      simpa [Lib.join_nil] using hs
    · rw [if_neg e] at hs
      refine ev_if_pos (by omega) (ev_if_pos (by rw [mkB_size, List.length_append]; omega) (ev_if_pos (by omega) (Ev.bind (hE _ (getD_mem d hi)) ?_)))
      rw [show (⟨#[44, 32]⟩ : ByteArray) = mkB [44, 32] from rfl, mkB_append]
      refine ev_if_pos (by simp only [mkB_size, List.length_append, List.length_cons, List.length_nil]; omega) ?_
      rw [mkB_append]
      simpa using hs
/-- The program's loop: a word for each. -/
theorem words_loop {α β : Type} (d : α) (L : Nat → List ByteArray → Int → Option β) (E : Nat → α → Option ByteArray) (F : Nat → List ByteArray → Option β) (tx : α → List UInt8) (xs : List α) (r : β)
    (hL : ∀ k ws i, L (k + 1) ws i = if i < (xs.length : Int) then (if 0 ≤ i then (if i < (xs.length : Int) then ((E k (xs.getD i.toNat d)).bind fun t => if ws.length < 8796093022208 then L k (ws ++ [t]) (wrap64 (i + 1)) else none) else none) else none) else F k ws)
    (hn : xs.length ≤ 1048576) (hE : ∀ x ∈ xs, Ev (fun k => E k x) (mkB (tx x))) (hF : Ev (fun k => F k (xs.map fun x => mkB (tx x))) r) :
    ∀ (n i : Nat), xs.length - i = n → i ≤ xs.length → Ev (fun k => L k ((xs.take i).map fun x => mkB (tx x)) i) r := by
  intro n
  induction n with
  | zero =>
    intro i h1 h2
    refine Ev.step (fun k => hL k _ _) (ev_if_neg (by omega) ?_)
    rw [List.take_of_length_le (by omega)]
    exact hF
  | succ n ih =>
    intro i h1 h2
    have hi : i < xs.length := by omega
    refine Ev.step (fun k => hL k _ _) (ev_if_pos (by omega) (ev_if_pos (by omega) (ev_if_pos (by omega) ?_)))
    rw [Int.toNat_natCast, wrap_succ hi (by omega)]
    refine Ev.bind (hE _ (getD_mem d hi)) (ev_if_pos (by rw [List.length_map, List.length_take]; omega) ?_)
    have hs := ih (i + 1) (by omega) (by omega)
    rw [take_snoc d hi, List.map_append] at hs
    exact hs
theorem join_is {α : Type} (tx : α → List UInt8) (xs : List α) (hn : xs.length ≤ 1048576) (hb : (xs.map fun x => (tx x).length + 2).sum ≤ 140737488355328) : strings_Join.f (xs.map fun x => mkB (tx x)) ⟨#[44, 32]⟩ = some (mkB (Lib.join (xs.map tx) [44, 32])) := by
  unfold strings_Join.f
  have e : (xs.map fun x => mkB (tx x)).map (fun b : ByteArray => b.data.toList) = xs.map tx := by rw [List.map_map]; rfl
  have hl := join_le (xs.map tx)
  rw [List.map_map] at hl
  rw [e, show (⟨#[44, 32]⟩ : ByteArray).data.toList = [44, 32] from rfl, if_pos ⟨Nat.le_trans hl hb, by rw [List.length_map]; omega⟩]
  rfl
/-! #### the text of a plan -/
theorem cat2 (n : Nat) (p q : List UInt8) (hn : n = p.length) (hb : p.length + q.length + 1 ≤ 9223372036854775807) : (if n + (mkB q).size ≤ 9223372036854775807 then (if (mkB p ++ mkB q).size + 1 ≤ 9223372036854775807 then some ((mkB p ++ mkB q) ++ (⟨#[41]⟩ : ByteArray)) else none) else none) = some (mkB (p ++ q ++ [41])) := by
  rw [if_pos (by rw [mkB_size]; omega), mkB_append, if_pos (by rw [mkB_size, List.length_append]; omega)]
  exact congrArg some (mkB_append _ [41])
theorem cat4 (n : Nat) (p t q : List UInt8) (hn : n = p.length) (hb : p.length + t.length + q.length + 3 ≤ 9223372036854775807) : (if n + (mkB t).size ≤ 9223372036854775807 then (if (mkB p ++ mkB t).size + 2 ≤ 9223372036854775807 then (if ((mkB p ++ mkB t) ++ (⟨#[44, 32]⟩ : ByteArray)).size + (mkB q).size ≤ 9223372036854775807 then (if (((mkB p ++ mkB t) ++ (⟨#[44, 32]⟩ : ByteArray)) ++ mkB q).size + 1 ≤ 9223372036854775807 then some ((((mkB p ++ mkB t) ++ (⟨#[44, 32]⟩ : ByteArray)) ++ mkB q) ++ (⟨#[41]⟩ : ByteArray)) else none) else none) else none) else none) = some (mkB (p ++ t ++ [44, 32] ++ q ++ [41])) := by
  have e : (⟨#[44, 32]⟩ : ByteArray) = mkB [44, 32] := rfl
  have l : ([44, 32] : List UInt8).length = 2 := rfl
  rw [e, mkB_append, mkB_append, mkB_append, if_pos (by rw [mkB_size]; omega), if_pos (by rw [mkB_size, List.length_append]; omega), if_pos (by rw [mkB_size, mkB_size, List.length_append, List.length_append]; omega), if_pos (by rw [mkB_size, List.length_append, List.length_append, List.length_append]; omega)]
  exact congrArg some (mkB_append _ [41])
def expsT (xs : List S32) : List UInt8 := [91] ++ Lib.join (xs.map etext) [44, 32] ++ [93]
theorem exps_sum {xs : List S32} (h : ∀ y ∈ xs, goodI 13 y) : (xs.map fun y => (etext y).length + 2).sum ≤ 320 * (xs.length + (xs.map (wtIE 13)).sum) := by
  rw [← sum_map_mul 320 (wtIE 13)]
  exact sum_map_le fun y hy => etext_short y (h y hy)
theorem expsT_len {xs : List S32} (h : ∀ y ∈ xs, goodI 13 y) : (expsT xs).length ≤ 2 + 320 * (xs.length + (xs.map (wtIE 13)).sum) := by
  have a := exps_sum h
  have b := join_le (xs.map etext)
  rw [List.map_map] at b
  have c : (Lib.join (xs.map etext) [44, 32]).length ≤ (xs.map fun y => (etext y).length + 2).sum := b
  unfold expsT
  simp only [List.length_append, List.length_cons, List.length_nil]
  omega
theorem specExps_is (xs : List S32) (hg : ∀ y ∈ xs, goodI 13 y) (hs : ∀ y ∈ xs, shortI 13 y) (hb : xs.length + (xs.map (wtIE 13)).sum ≤ 1048576) : Ev (fun k => spec_l04Exps.f k xs) (mkB (expsT xs)) := by
  have a := exps_sum hg
  have b := join_le (xs.map etext)
  rw [List.map_map] at b
  have c : (Lib.join (xs.map etext) [44, 32]).length ≤ (xs.map fun y => (etext y).length + 2).sum := b
  refine Ev.congr (fun k => rfl) (join_loop z32 (fun k acc i => spec_l04Exps.l0 k xs acc i) (fun k y => spec_ExpText.f k y.f0 y.f1 y.f2.f0 y.f2.f1 y.f2.f2 y.f3 y.f4) (fun k acc => if acc.size + 1 ≤ 9223372036854775807 then some (acc ++ (⟨#[93]⟩ : ByteArray)) else none) etext xs [91] (mkB (expsT xs)) (fun _ _ _ => rfl) (by omega) (fun y hy => specExpText_is y (hs y hy) (hg y hy)) (by simp only [List.length_cons, List.length_nil]; omega) ?_ xs.length 0 rfl (Nat.zero_le _))
  exact ev_if_pos (by rw [mkB_size]; simp only [List.length_append, List.length_cons, List.length_nil]; omega) (ev_conv (ev_some fun _ => rfl) (mkB_append _ [93]))
theorem implExps_is (xs : List S32) (hg : ∀ y ∈ xs, goodI 13 y) (hs : ∀ y ∈ xs, shortI 13 y) (hb : xs.length + (xs.map (wtIE 13)).sum ≤ 1048576) : Ev (fun k => impl_expTexts.f k xs) (mkB (expsT xs)) := by
  have a := exps_sum hg
  have b := join_le (xs.map etext)
  rw [List.map_map] at b
  have c : (Lib.join (xs.map etext) [44, 32]).length ≤ (xs.map fun y => (etext y).length + 2).sum := b
  refine Ev.congr (fun k => rfl) (words_loop z32 (fun k ws i => impl_expTexts.l0 k ws xs (xs.length : Int) i) (fun k y => impl_ExpText.f k y.f0 y.f1 y.f2.f0 y.f2.f1 y.f2.f2 y.f3 y.f4) (fun k ws => (strings_Join.f ws (⟨#[44, 32]⟩ : ByteArray)).bind fun t => if 1 + t.size ≤ 9223372036854775807 then (if ((⟨#[91]⟩ : ByteArray) ++ t).size + 1 ≤ 9223372036854775807 then some (((⟨#[91]⟩ : ByteArray) ++ t) ++ (⟨#[93]⟩ : ByteArray)) else none) else none) etext xs (mkB (expsT xs)) (fun _ _ _ => rfl) (by omega) (fun y hy => implExpText_is y (hs y hy) (hg y hy)) ?_ xs.length 0 rfl (Nat.zero_le _))
  refine ev_bind0 (join_is etext xs (by omega) (by omega)) (ev_if_pos (by rw [mkB_size]; omega) ?_)
  rw [show (⟨#[91]⟩ : ByteArray) = mkB [91] from rfl, mkB_append]
  exact ev_if_pos (by rw [mkB_size]; simp only [List.length_append, List.length_cons, List.length_nil]; omega) (ev_conv (ev_some fun _ => rfl) (mkB_append _ [93]))
def plT : Nat → S70 → List UInt8
  | 0, _ => []
  | m + 1, p =>
    if p.f0 = 0 then p.f1.data.toList
    else if p.f0 = 1 then [102, 105, 108, 116, 101, 114, 40] ++ etext p.f2 ++ [44, 32] ++ Lib.join (p.f5.map (plT m)) [44, 32] ++ [41]
    else if p.f0 = 2 then [112, 114, 111, 106, 101, 99, 116, 40] ++ expsT p.f3 ++ [44, 32] ++ Lib.join (p.f5.map (plT m)) [44, 32] ++ [41]
    else if p.f0 = 3 then [106, 111, 105, 110, 40] ++ etext p.f2 ++ [44, 32] ++ Lib.join (p.f5.map (plT m)) [44, 32] ++ [41]
    else if p.f0 = 4 then [117, 110, 105, 111, 110, 40] ++ Lib.join (p.f5.map (plT m)) [44, 32] ++ [41]
    else if p.f0 = 5 then [100, 105, 115, 116, 105, 110, 99, 116, 40] ++ Lib.join (p.f5.map (plT m)) [44, 32] ++ [41]
    else if p.f0 = 6 then [103, 114, 111, 117, 112, 40] ++ Lib.itoa p.f4 ++ [44, 32] ++ expsT p.f3 ++ [44, 32] ++ Lib.join (p.f5.map (plT m)) [44, 32] ++ [41]
    else []
def gdP : Nat → S70 → Prop
  | 0, _ => True
  | m + 1, p => goodI 13 p.f2 ∧ shortI 13 p.f2 ∧ (∀ y ∈ p.f3, goodI 13 y) ∧ (∀ y ∈ p.f3, shortI 13 y) ∧ -9223372036854775808 ≤ p.f4 ∧ p.f4 ≤ 9223372036854775807 ∧ ∀ q ∈ p.f5, gdP m q
def wtIP : Nat → S70 → Nat
  | 0, _ => 0
  | m + 1, p => p.f1.size + (wtIE 13 p.f2 + ((p.f3.length + (p.f3.map (wtIE 13)).sum) + (p.f5.length + (p.f5.map (wtIP m)).sum)))
theorem kids_join {m : Nat} {l : List S70} (ih : ∀ q ∈ l, (plT m q).length + 2 ≤ 330 * (1 + wtIP m q)) : (Lib.join (l.map (plT m)) [44, 32]).length ≤ (l.map fun q => (plT m q).length + 2).sum ∧ (l.map fun q => (plT m q).length + 2).sum ≤ 330 * (l.length + (l.map (wtIP m)).sum) := by
  refine ⟨?_, ?_⟩
  · have b := join_le (l.map (plT m))
    rw [List.map_map] at b
    exact b
  · rw [← sum_map_mul 330 (wtIP m)]
    exact sum_map_le ih
theorem plT_len : ∀ (m : Nat) (p : S70), gdP m p → (plT m p).length + 2 ≤ 330 * (1 + wtIP m p) := by
  intro m
  induction m with
  | zero =>
    intro p _
    show 2 ≤ 330 * (1 + 0)
    decide
  | succ m ih =>
    intro p hg
    obtain ⟨g2, _, g3, _, n0, n1, g5⟩ := hg
    obtain ⟨j1, j2⟩ := kids_join fun q hq => ih q (g5 q hq)
    have e2 := etext_short p.f2 g2
    have e3 := expsT_len g3
    have hi := itoa_len n0 n1
    have hz := size_data p.f1
    unfold plT wtIP
    generalize Lib.join (p.f5.map (plT m)) [44, 32] = K at *
    by_cases a0 : p.f0 = 0
    · rw [if_pos a0]
      omega
    rw [if_neg a0]
    by_cases a1 : p.f0 = 1
    · rw [if_pos a1]
      simp only [List.length_append, List.length_cons, List.length_nil]
      omega
    rw [if_neg a1]
    by_cases a2 : p.f0 = 2
    · rw [if_pos a2]
      simp only [List.length_append, List.length_cons, List.length_nil]
      omega
    rw [if_neg a2]
    by_cases a3 : p.f0 = 3
    · rw [if_pos a3]
      simp only [List.length_append, List.length_cons, List.length_nil]
      omega
    rw [if_neg a3]
    by_cases a4 : p.f0 = 4
    · rw [if_pos a4]
      simp only [List.length_append, List.length_cons, List.length_nil]
      omega
    rw [if_neg a4]
    by_cases a5 : p.f0 = 5
    · rw [if_pos a5]
      simp only [List.length_append, List.length_cons, List.length_nil]
      omega
    rw [if_neg a5]
    by_cases a6 : p.f0 = 6
    · rw [if_pos a6]
      simp only [List.length_append, List.length_cons, List.length_nil]
      omega
    rw [if_neg a6]
    simp only [List.length_nil]
    omega
theorem l04Kids_is (a : Int) : ∃ t, spec_l04Kids.f a = some t ∧ (t < 0 ↔ ¬ (0 ≤ a ∧ a ≤ 6)) := by
  by_cases h : 0 ≤ a ∧ a ≤ 6
  · have : a = 0 ∨ a = 1 ∨ a = 2 ∨ a = 3 ∨ a = 4 ∨ a = 5 ∨ a = 6 := by omega
    rcases this with rfl | rfl | rfl | rfl | rfl | rfl | rfl
    · exact ⟨0, by rfl, by decide⟩
    · exact ⟨1, by rfl, by decide⟩
    · exact ⟨1, by rfl, by decide⟩
    · exact ⟨2, by rfl, by decide⟩
    · exact ⟨2, by rfl, by decide⟩
    · exact ⟨1, by rfl, by decide⟩
    · exact ⟨1, by rfl, by decide⟩
  · refine ⟨-1, ?_, by simp [h]⟩
    unfold spec_l04Kids.f spec_l01In.f
    by_cases g : 0 ≤ a
    · simp [g, show ¬ a ≤ 6 by omega]
    · simp [g]
theorem pls_is : ∀ (m : Nat) (p : S70), m ≤ 21 → gdP m p → wtIP m p ≤ 1048576 →
    (∀ d : Int, d = 21 - (m : Int) → Ev (fun k => impl_planText.f k p.f0 p.f1 p.f2.f0 p.f2.f1 p.f2.f2.f0 p.f2.f2.f1 p.f2.f2.f2 p.f2.f3 p.f2.f4 p.f3 p.f4 p.f5 d) (mkB (plT m p))) ∧
    (∀ d : Int, d = (m : Int) - 1 → Ev (fun k => spec_l04Text.f k p.f0 p.f1 p.f2.f0 p.f2.f1 p.f2.f2.f0 p.f2.f2.f1 p.f2.f2.f2 p.f2.f3 p.f2.f4 p.f3 p.f4 p.f5 d) (mkB (plT m p))) := by
  intro m
  induction m with
  | zero =>
    intro p _ _ _
    exact ⟨fun d hd => Ev.step (fun k => rfl) (ev_if_pos (by omega) (ev_some fun _ => rfl)), fun d hd => Ev.step (fun k => rfl) (ev_if_pos (by omega) ⟨1, fun k hk => by
      obtain ⟨j, rfl⟩ : ∃ j, k = j + 1 := ⟨k - 1, by omega⟩
      rfl⟩)⟩
  | succ m ih =>
    intro p hm hg hw
    have hg' := hg
    obtain ⟨g2, s2, g3, s3, n0, n1, g5⟩ := hg
    have hkw : ∀ q ∈ p.f5, wtIP m q ≤ 1048576 := fun q hq => by
      have := sum_le_of_mem0 (wtIP m) hq
      unfold wtIP at hw
      omega
    have hk := fun q hq => ih q (by omega) (g5 q hq) (hkw q hq)
    obtain ⟨j1, j2⟩ := kids_join (m := m) (l := p.f5) fun q hq => plT_len m q (g5 q hq)
    have e2 := etext_short p.f2 g2
    have e3 := expsT_len g3
    have hi := itoa_len n0 n1
    unfold wtIP at hw
    have w3 : p.f3.length + (p.f3.map (wtIE 13)).sum ≤ 1048576 := by omega
    have ie := implExpText_is p.f2 s2 g2
    have se := specExpText_is p.f2 s2 g2
    have ix := implExps_is p.f3 g3 s3 w3
    have sx := specExps_is p.f3 g3 s3 w3
    refine ⟨fun d hd => ?_, fun d hd => ?_⟩
    · have hE : ∀ q ∈ p.f5, Ev (fun k => impl_planText.f k q.f0 q.f1 q.f2.f0 q.f2.f1 q.f2.f2.f0 q.f2.f2.f1 q.f2.f2.f2 q.f2.f3 q.f2.f4 q.f3 q.f4 q.f5 (wrap64 (d + 1))) (mkB (plT m q)) := fun q hq => by
        rw [wrap_id (x := d + 1) (by omega) (by omega)]
        exact (hk q hq).1 _ (by omega)
      refine Ev.step (fun k => rfl) (ev_if_neg (by omega) (Ev.congr (fun k => rfl) (words_loop z70 (fun k ws i => impl_planText.l0 k d ws p.f5 (p.f5.length : Int) i p.f0 p.f1 p.f2.f0 p.f2.f1 p.f2.f2.f0 p.f2.f2.f1 p.f2.f2.f2 p.f2.f3 p.f2.f4 p.f3 p.f4 p.f5) (fun k q => impl_planText.f k q.f0 q.f1 q.f2.f0 q.f2.f1 q.f2.f2.f0 q.f2.f2.f1 q.f2.f2.f2 q.f2.f3 q.f2.f4 q.f3 q.f4 q.f5 (wrap64 (d + 1))) _ (plT m) p.f5 (mkB (plT (m + 1) p)) (fun _ _ _ => rfl) (by omega) hE ?_ p.f5.length 0 rfl (Nat.zero_le _))))
      refine ev_bind0 (join_is (plT m) p.f5 (by omega) (by omega)) ?_
      unfold plT
      generalize Lib.join (p.f5.map (plT m)) [44, 32] = K at *
      by_cases a0 : p.f0 = 0
      · rw [if_pos a0]
        exact ev_if_pos a0 (ev_conv (ev_some fun _ => rfl) (mkB_of _).symm)
      rw [if_neg a0]
      refine ev_if_neg a0 ?_
      by_cases a1 : p.f0 = 1
      · rw [if_pos a1]
        exact ev_if_pos a1 (Ev.bind ie (ev_some fun _ => cat4 7 [102, 105, 108, 116, 101, 114, 40] (etext p.f2) K rfl (by simp only [List.length_cons, List.length_nil]; omega)))
      rw [if_neg a1]
      refine ev_if_neg a1 ?_
      by_cases a2 : p.f0 = 2
      · rw [if_pos a2]
        exact ev_if_pos a2 (Ev.bind ix (ev_some fun _ => cat4 8 [112, 114, 111, 106, 101, 99, 116, 40] (expsT p.f3) K rfl (by simp only [List.length_cons, List.length_nil]; omega)))
      rw [if_neg a2]
      refine ev_if_neg a2 ?_
      by_cases a3 : p.f0 = 3
      · rw [if_pos a3]
        exact ev_if_pos a3 (Ev.bind ie (ev_some fun _ => cat4 5 [106, 111, 105, 110, 40] (etext p.f2) K rfl (by simp only [List.length_cons, List.length_nil]; omega)))
      rw [if_neg a3]
      refine ev_if_neg a3 ?_
      by_cases a4 : p.f0 = 4
      · rw [if_pos a4]
        exact ev_if_pos a4 (ev_some fun _ => cat2 6 [117, 110, 105, 111, 110, 40] K rfl (by simp only [List.length_cons, List.length_nil]; omega))
      rw [if_neg a4]
      refine ev_if_neg a4 ?_
      by_cases a5 : p.f0 = 5
      · rw [if_pos a5]
        exact ev_if_pos a5 (ev_some fun _ => cat2 9 [100, 105, 115, 116, 105, 110, 99, 116, 40] K rfl (by simp only [List.length_cons, List.length_nil]; omega))
      rw [if_neg a5]
      refine ev_if_neg a5 ?_
      by_cases a6 : p.f0 = 6
      · rw [if_pos a6]
        have q : ((⟨#[103, 114, 111, 117, 112, 40]⟩ : ByteArray) ++ mkB (Lib.itoa p.f4)) ++ (⟨#[44, 32]⟩ : ByteArray) = mkB ([103, 114, 111, 117, 112, 40] ++ Lib.itoa p.f4 ++ [44, 32]) := by
          rw [show (⟨#[103, 114, 111, 117, 112, 40]⟩ : ByteArray) = mkB [103, 114, 111, 117, 112, 40] from rfl, mkB_append]
          exact mkB_append _ [44, 32]
        have q1 : ((⟨#[103, 114, 111, 117, 112, 40]⟩ : ByteArray) ++ mkB (Lib.itoa p.f4)).size + 2 ≤ 9223372036854775807 := by
          rw [show (⟨#[103, 114, 111, 117, 112, 40]⟩ : ByteArray) = mkB [103, 114, 111, 117, 112, 40] from rfl, mkB_append, mkB_size]
          simp only [List.length_append, List.length_cons, List.length_nil]
          omega
        refine ev_if_pos a6 (ev_bind0 (implDecText_is p.f4 n0 n1) (ev_if_pos (by rw [mkB_size]; omega) (ev_if_pos q1 (Ev.bind ix ?_))))
        rw [q]
        exact ev_some fun _ => cat4 _ ([103, 114, 111, 117, 112, 40] ++ Lib.itoa p.f4 ++ [44, 32]) (expsT p.f3) K (mkB_size _) (by simp only [List.length_append, List.length_cons, List.length_nil]; omega)
      · rw [if_neg a6]
        exact ev_if_neg a6 (ev_some fun _ => rfl)
    · obtain ⟨t, ht, htn⟩ := l04Kids_is p.f0
      refine Ev.step (fun k => rfl) (ev_if_neg (by omega) (ev_bind0 ht (Ev.step (fun k => rfl) ?_)))
      by_cases hr : 0 ≤ p.f0 ∧ p.f0 ≤ 6
      case neg =>
        refine ev_if_pos (decide_eq_true (htn.2 hr)) (ev_conv (ev_some fun _ => rfl) ?_)
        unfold plT
        rw [if_neg (by omega), if_neg (by omega), if_neg (by omega), if_neg (by omega), if_neg (by omega), if_neg (by omega), if_neg (by omega)]
        rfl
      have hE : ∀ q ∈ p.f5, Ev (fun k => spec_l04Text.f k q.f0 q.f1 q.f2.f0 q.f2.f1 q.f2.f2.f0 q.f2.f2.f1 q.f2.f2.f2 q.f2.f3 q.f2.f4 q.f3 q.f4 q.f5 (wrap64 (d - 1))) (mkB (plT m q)) := fun q hq => by
        rw [wrap_id (x := d - 1) (by omega) (by omega)]
        exact (hk q hq).2 _ (by omega)
      refine ev_if_neg (fun e => htn.1 (of_decide_eq_true e) hr) (Ev.congr (fun k => rfl) (join_loop z70 (fun k acc i => spec_l04Text.l0 k d acc i p.f0 p.f1 p.f2.f0 p.f2.f1 p.f2.f2.f0 p.f2.f2.f1 p.f2.f2.f2 p.f2.f3 p.f2.f4 p.f3 p.f4 p.f5) (fun k q => spec_l04Text.f k q.f0 q.f1 q.f2.f0 q.f2.f1 q.f2.f2.f0 q.f2.f2.f1 q.f2.f2.f2 q.f2.f3 q.f2.f4 q.f3 q.f4 q.f5 (wrap64 (d - 1))) _ (plT m) p.f5 [] (mkB (plT (m + 1) p)) (fun _ _ _ => rfl) (by omega) hE (by simp only [List.length_nil]; omega) ?_ p.f5.length 0 rfl (Nat.zero_le _)))
      rw [List.nil_append]
      unfold plT
      generalize Lib.join (p.f5.map (plT m)) [44, 32] = K at *
      by_cases a0 : p.f0 = 0
      · rw [if_pos a0]
        exact ev_if_pos a0 (ev_conv (ev_some fun _ => rfl) (mkB_of _).symm)
      rw [if_neg a0]
      refine ev_if_neg a0 ?_
      by_cases a1 : p.f0 = 1
      · rw [if_pos a1]
        exact ev_if_pos a1 (Ev.bind se (ev_some fun _ => cat4 7 [102, 105, 108, 116, 101, 114, 40] (etext p.f2) K rfl (by simp only [List.length_cons, List.length_nil]; omega)))
      rw [if_neg a1]
      refine ev_if_neg a1 ?_
      by_cases a2 : p.f0 = 2
      · rw [if_pos a2]
        exact ev_if_pos a2 (Ev.bind sx (ev_some fun _ => cat4 8 [112, 114, 111, 106, 101, 99, 116, 40] (expsT p.f3) K rfl (by simp only [List.length_cons, List.length_nil]; omega)))
      rw [if_neg a2]
      refine ev_if_neg a2 ?_
      by_cases a3 : p.f0 = 3
      · rw [if_pos a3]
        exact ev_if_pos a3 (Ev.bind se (ev_some fun _ => cat4 5 [106, 111, 105, 110, 40] (etext p.f2) K rfl (by simp only [List.length_cons, List.length_nil]; omega)))
      rw [if_neg a3]
      refine ev_if_neg a3 ?_
      by_cases a4 : p.f0 = 4
      · rw [if_pos a4]
        exact ev_if_pos a4 (ev_some fun _ => cat2 6 [117, 110, 105, 111, 110, 40] K rfl (by simp only [List.length_cons, List.length_nil]; omega))
      rw [if_neg a4]
      refine ev_if_neg a4 ?_
      by_cases a5 : p.f0 = 5
      · rw [if_pos a5]
        exact ev_if_pos a5 (ev_some fun _ => cat2 9 [100, 105, 115, 116, 105, 110, 99, 116, 40] K rfl (by simp only [List.length_cons, List.length_nil]; omega))
      rw [if_neg a5, if_pos (show p.f0 = 6 by omega)]
      refine ev_if_neg a5 ?_
      have q : ((⟨#[103, 114, 111, 117, 112, 40]⟩ : ByteArray) ++ mkB (Lib.itoa p.f4)) ++ (⟨#[44, 32]⟩ : ByteArray) = mkB ([103, 114, 111, 117, 112, 40] ++ Lib.itoa p.f4 ++ [44, 32]) := by
        rw [show (⟨#[103, 114, 111, 117, 112, 40]⟩ : ByteArray) = mkB [103, 114, 111, 117, 112, 40] from rfl, mkB_append]
        exact mkB_append _ [44, 32]
      have q1 : ((⟨#[103, 114, 111, 117, 112, 40]⟩ : ByteArray) ++ mkB (Lib.itoa p.f4)).size + 2 ≤ 9223372036854775807 := by
        rw [show (⟨#[103, 114, 111, 117, 112, 40]⟩ : ByteArray) = mkB [103, 114, 111, 117, 112, 40] from rfl, mkB_append, mkB_size]
        simp only [List.length_append, List.length_cons, List.length_nil]
        omega
      refine Ev.bind (specDecText_is p.f4 n0 n1) (ev_if_pos (by rw [mkB_size]; omega) (ev_if_pos q1 (Ev.bind sx ?_)))
      rw [q]
      exact ev_some fun _ => cat4 _ ([103, 114, 111, 117, 112, 40] ++ Lib.itoa p.f4 ++ [44, 32]) (expsT p.f3) K (mkB_size _) (by simp only [List.length_append, List.length_cons, List.length_nil]; omega)
/-! #### a copy is good, and no greater -/
theorem wtIP_z : ∀ m, wtIP m z70 = 0
  | 0 => rfl
  | _ + 1 => rfl
theorem wtIP_to (e : Nat) : ∀ (n m : Nat) (x : S65), wtIP m (toPN e n x) ≤ wtP e n x
  | 0, m, _ => by rw [show wtIP m (toPN e 0 _) = 0 from wtIP_z m]; exact Nat.zero_le _
  | _ + 1, 0, _ => Nat.zero_le _
  | n + 1, m + 1, x => by
    show x.f1.size + (wtIE 13 (toEN e x.f2) + (((x.f3.map (toEN e)).length + ((x.f3.map (toEN e)).map (wtIE 13)).sum) + ((x.f5.map (toPN e n)).length + ((x.f5.map (toPN e n)).map (wtIP m)).sum))) ≤ _
    rw [List.length_map, List.map_map, List.length_map, List.map_map]
    have a := wtIE_to e 13 x.f2
    have b := sum_map_le (l := x.f3) (f := wtIE 13 ∘ toEN e) (g := wtEN e) fun y _ => wtIE_to e 13 y
    have c := sum_map_le (l := x.f5) (f := wtIP m ∘ toPN e n) (g := wtP e n) fun y _ => wtIP_to e n m y
    unfold wtP
    omega
theorem i64EN_mono : ∀ (n m : Nat) (x : S26), n ≤ m → i64EN n x → i64EN m x
  | 0, _, _, _, h => h.elim
  | n + 1, 0, _, hm, _ => absurd hm (by omega)
  | n + 1, m + 1, x, hm, h => ⟨h.1, h.2.1, fun y hy => i64EN_mono n m y (by omega) (h.2.2 y hy)⟩
def i64P (e : Nat) : Nat → S65 → Prop
  | 0, _ => False
  | n + 1, x => i64EN e x.f2 ∧ (∀ y ∈ x.f3, i64EN e y) ∧ -9223372036854775808 ≤ x.f4 ∧ x.f4 ≤ 9223372036854775807 ∧ ∀ y ∈ x.f5, i64P e n y
theorem gdP_z : ∀ m, gdP m z70
  | 0 => trivial
  | _ + 1 => ⟨good_z 13, short_z 13, fun y hy => by simp [z70] at hy, fun y hy => by simp [z70] at hy, by decide, by decide, fun y hy => by simp [z70] at hy⟩
theorem gdP_to (e : Nat) : ∀ (n m : Nat) (x : S65), wtP e n x ≤ 1048576 → i64P e n x → gdP m (toPN e n x)
  | 0, m, _, _, h => h.elim
  | _ + 1, 0, _, _, _ => trivial
  | n + 1, m + 1, x, hw, h => by
    obtain ⟨w2, _, _, w3⟩ := wtP_parts hw
    obtain ⟨i2, i3, n0, n1, i5⟩ := h
    refine ⟨toE_good e 13 x.f2 w2 i2, toE_short e 13 x.f2 w2, fun y hy => ?_, fun y hy => ?_, n0, n1, fun y hy => ?_⟩
    · obtain ⟨u, hu, rfl⟩ := List.mem_map.1 hy
      exact toE_good e 13 u (w3 u hu) (i3 u hu)
    · obtain ⟨u, hu, rfl⟩ := List.mem_map.1 hy
      exact toE_short e 13 u (w3 u hu)
    · obtain ⟨u, hu, rfl⟩ := List.mem_map.1 hy
      exact gdP_to e n m u (wtP_kid hw hu) (i5 u hu)
end Go.Proofs.YthgdmdabdlgliaaDoor.PFnExactPlanText
