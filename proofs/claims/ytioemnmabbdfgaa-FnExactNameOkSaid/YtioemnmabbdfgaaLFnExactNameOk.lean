/- Plain lemmas on what the functions of the law FnExactNameOk compute: numbers and lists alone. -/
import Derived.Test.YtioemnmabbdfgaaPFnExactNameOkx0
import Derived.Test.YtioemnmabbdfgaaPFnExactNameOkx1
import Derived.Test.YtioemnmabbdfgaaOpen
import Derived.Test.YtioemnmabbdfgaaZFnExactNameOk
namespace Go.Proofs.Ytioemnmabbdfgaa.PFnExactNameOk
open Go.RowKit Go.Proofs.YtioemnmabbdfgaaW.PrintWords Go.Proofs.YtioemnmabbdfgaaW.PrintLast Go.Proofs.YtioemnmabbdfgaaW.PrintMore Go.Proofs.YtioemnmabbdfgaaOpen Go.Proofs.Ytioemnmabbdfgaa.ZFnExactNameOk
set_option linter.unusedVariables false
set_option linter.unusedSimpArgs false
theorem nm_l01In_is (a b c : Int) : spec_l01In.f a b c = some (decide (b ≤ a ∧ a ≤ c)) := by
  unfold spec_l01In.f
  by_cases h : a ≥ b
  · rw [if_pos h]
    by_cases h' : a ≤ c <;> simp [h', show b ≤ a from h]
  · rw [if_neg h, decide_eq_false (by omega)]
def okAt (s : ByteArray) (j : Nat) : Prop := (97 ≤ bt s j ∧ bt s j ≤ 122) ∨ (j ≠ 0 ∧ 48 ≤ bt s j ∧ bt s j ≤ 57)
/-- A name. -/
def NameP (s : ByteArray) : Prop := (∀ j, j < s.size → okAt s j) ∧ 1 ≤ s.size ∧ s.size ≤ 10
theorem spec_nameOk_loop (s : ByteArray) (hs : s.size ≤ 9223372036854775807) : ∀ (n i : Nat) (r : Bool), s.size - i = n → i ≤ s.size → (r = true ↔ (∀ j, i ≤ j → j < s.size → okAt s j) ∧ 1 ≤ s.size ∧ s.size ≤ 10) → Ev (fun k => spec_NameOk.l0 k s i) r := by
  intro n
  induction n with
  | zero =>
    intro i r h1 h2 hr
    refine Ev.step (fun k => rfl) (ev_if_neg (by omega) (ev_some fun k => ?_))
    rw [nm_l01In_is]
    simp only [Option.bind_some]
    congr 1
    rw [Bool.eq_iff_iff, hr, decide_eq_true_eq]
    exact ⟨fun h => ⟨fun j _ _ => by omega, by omega, by omega⟩, fun h => by omega⟩
  | succ n ih =>
    intro i r h1 h2 hr
    have hi : i < s.size := by omega
    have hb := bt_range s i
    refine Ev.step (fun k => rfl) (ev_if_pos (by omega) (ev_if_pos (by omega) ?_))
    rw [wrap_id (by omega) (by omega), wrap_succ hi hs]
    refine ev_bind0 (nm_l01In_is _ _ _) ?_
    have next : okAt s i → Ev (fun k => spec_NameOk.l0 k s ((i + 1 : Nat) : Int)) r := fun ho => ih (i + 1) r (by omega) (by omega) (hr.trans ⟨fun h => ⟨fun j hj hj' => h.1 j (by omega) hj', h.2⟩, fun h => ⟨fun j hj hj' => by
      by_cases e : j = i
      · exact e ▸ ho
      · exact h.1 j (by omega) hj', h.2⟩⟩)
    have no : ¬ okAt s i → false = r := fun ho => by
      cases r with
      | false => rfl
      | true => exact absurd ((hr.1 rfl).1 i (Nat.le_refl _) hi) ho
    by_cases hsm : 97 ≤ bt s i ∧ bt s i ≤ 122
    · exact ev_if_pos (decide_eq_true hsm) (next (.inl hsm))
    · refine ev_if_neg (by simpa using hsm) ?_
      by_cases h0 : (i : Int) = 0
      · exact ev_if_pos h0 (ev_conv (ev_some fun _ => rfl) (no (by rintro (h | h); exact hsm h; exact h.1 (by omega))))
      · refine ev_if_neg h0 (ev_bind0 (nm_l01In_is _ _ _) ?_)
        by_cases hd : 48 ≤ bt s i ∧ bt s i ≤ 57
        · exact ev_if_pos (decide_eq_true hd) (next (.inr ⟨by omega, hd⟩))
        · exact ev_if_neg (by simpa using hd) (ev_conv (ev_some fun _ => rfl) (no (by rintro (h | h); exact hsm h; exact hd h.2)))
theorem spec_nameOk_is (s : ByteArray) (hs : s.size ≤ 9223372036854775807) (r : Bool) (hr : r = true ↔ NameP s) : Ev (fun k => spec_NameOk.f k s) r :=
  spec_nameOk_loop s hs s.size 0 r rfl (Nat.zero_le _) (hr.trans ⟨fun h => ⟨fun j _ hj => h.1 j hj, h.2⟩, fun h => ⟨fun j hj => h.1 j (Nat.zero_le _) hj, h.2⟩⟩)
theorem allO_is {α : Type} {f : α → Option Bool} {g : α → Bool} : ∀ {xs : List α}, (∀ x ∈ xs, f x = some (g x)) → allO f xs = some (xs.all g)
  | [], _ => rfl
  | x :: xs, h => by
    rw [allO, h x (List.mem_cons_self ..), Option.bind_some, List.all_cons]
    cases g x with
    | false => rfl
    | true => rw [if_pos rfl, allO_is fun y hy => h y (List.mem_cons_of_mem _ hy), Bool.true_and]
theorem isSmall_is (a : Int) : impl_isSmall.f a = some (decide (97 ≤ a ∧ a ≤ 122)) := by
  unfold impl_isSmall.f
  by_cases h : a ≥ 97
  · rw [if_pos h]
    by_cases h' : a ≤ 122 <;> simp [h', show 97 ≤ a from h]
  · rw [if_neg h, decide_eq_false (by omega)]
theorem isDigit_is (a : Int) : impl_isDigit.f a = some (decide (48 ≤ a ∧ a ≤ 57)) := by
  unfold impl_isDigit.f
  by_cases h : a ≥ 48
  · rw [if_pos h]
    by_cases h' : a ≤ 57 <;> simp [h', show 48 ≤ a from h]
  · rw [if_neg h, decide_eq_false (by omega)]
theorem nameOk1_is (a : Int) : impl_NameOk_1.f a = some (decide ((97 ≤ a ∧ a ≤ 122) ∨ (48 ≤ a ∧ a ≤ 57))) := by
  unfold impl_NameOk_1.f
  rw [isSmall_is, Option.bind_some, isDigit_is]
  by_cases h : 97 ≤ a ∧ a ≤ 122
  · rw [if_pos (decide_eq_true h), decide_eq_true (Or.inl h)]
  · rw [if_neg (by simpa using h), Option.bind_some]
    congr 1
    by_cases h' : 48 ≤ a ∧ a ≤ 57
    · rw [decide_eq_true h', decide_eq_true (Or.inr h')]
    · rw [decide_eq_false h', decide_eq_false (by rintro (x | x); exact h x; exact h' x)]
theorem bytesI_mem {s : ByteArray} {x : Int} (h : x ∈ bytesI s) : ∃ j, j < s.size ∧ x = bt s (j : Nat) := by
  obtain ⟨j, hj, rfl⟩ := List.getElem_of_mem h
  have hl : j < s.size := by simpa [bytesI] using hj
  refine ⟨j, hl, ?_⟩
  rw [← bt_at s j (by simpa using hl)]
  simp [bytesI]
  rfl
theorem bt_mem {s : ByteArray} {j : Nat} (hl : j < s.size) : bt s (j : Nat) ∈ bytesI s := by
  have hj : j < (bytesI s).length := by simpa [bytesI] using hl
  have : (bytesI s)[j] = bt s j := by
    rw [← bt_at s j (by simpa using hl)]
    simp [bytesI]
    rfl
  exact this ▸ List.getElem_mem hj
theorem impl_nameOk_is (s : ByteArray) (r : Bool) (hr : r = true ↔ NameP s) : impl_NameOk.f s = some r := by
  have hw : impl_within.f (s.size : Int) 1 10 = some (decide (1 ≤ s.size ∧ s.size ≤ 10)) := by
    unfold impl_within.f
    by_cases h : (1 : Int) ≤ (s.size : Int)
    · rw [if_pos h]
      congr 1
      by_cases h' : s.size ≤ 10
      · rw [decide_eq_true (by omega), decide_eq_true (by omega)]
      · rw [decide_eq_false (by omega), decide_eq_false (by omega)]
    · rw [if_neg h, decide_eq_false (by omega)]
  have no : ¬ NameP s → some false = some r := fun hn => by
    cases r with
    | false => rfl
    | true => exact absurd (hr.1 rfl) hn
  unfold impl_NameOk.f
  rw [hw, Option.bind_some]
  by_cases hz : 1 ≤ s.size ∧ s.size ≤ 10
  · rw [if_pos (decide_eq_true hz), if_pos (by omega), isSmall_is, Option.bind_some]
    by_cases h0 : 97 ≤ bt s 0 ∧ bt s 0 ≤ 122
    · rw [if_pos (decide_eq_true h0), if_pos (by omega), allO_is (g := fun a => decide ((97 ≤ a ∧ a ≤ 122) ∨ (48 ≤ a ∧ a ≤ 57))) fun x _ => nameOk1_is x]
      congr 1
      rw [Bool.eq_iff_iff, hr, List.all_eq_true]
      refine ⟨fun h => ⟨fun j hj => ?_, hz⟩, fun h x hx => ?_⟩
      · have := of_decide_eq_true (h _ (bt_mem hj))
        by_cases e : j = 0
        · subst e
          exact .inl h0
        · exact this.imp id fun t => ⟨e, t⟩
      · obtain ⟨j, hj, rfl⟩ := bytesI_mem hx
        exact decide_eq_true ((h.1 j hj).imp id fun t => t.2)
    · rw [if_neg (by simpa using h0)]
      exact no fun h => (h.1 0 (by omega)).elim h0 fun t => t.1 rfl
  · rw [if_neg (by simpa using hz)]
    exact no fun h => hz h.2
end Go.Proofs.Ytioemnmabbdfgaa.PFnExactNameOk
