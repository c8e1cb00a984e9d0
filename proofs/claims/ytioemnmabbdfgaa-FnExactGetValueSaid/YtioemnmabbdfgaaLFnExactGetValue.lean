/- Plain lemmas on what the functions of the law FnExactGetValue compute: numbers and lists alone. -/
import Derived.Test.YtioemnmabbdfgaaPFnExactGetValuex0
import Derived.Test.YtioemnmabbdfgaaPFnExactGetValuex1
import Derived.Test.YtioemnmabbdfgaaPFnExactGetValuex2
import Derived.Test.YtioemnmabbdfgaaPFnExactGetValuex3
import Derived.Test.YtioemnmabbdfgaaOpen
import Derived.Test.YtioemnmabbdfgaaZFnExactGetValue
namespace Go.Proofs.Ytioemnmabbdfgaa.PFnExactGetValue
open Go.RowKit Go.Proofs.YtioemnmabbdfgaaW.PrintWords Go.Proofs.YtioemnmabbdfgaaW.PrintLast Go.Proofs.YtioemnmabbdfgaaW.PrintMore Go.Proofs.YtioemnmabbdfgaaOpen Go.Proofs.Ytioemnmabbdfgaa.ZFnExactGetValue
set_option linter.unusedVariables false
set_option linter.unusedSimpArgs false
/-- Is a value right. -/
def okV (a b : Int) (s : List UInt8) : Bool := if a = 0 then (b == 0 && s.isEmpty) else if a = 1 then s.isEmpty else if a = 2 then (decide (0 ≤ b ∧ b ≤ 1) && s.isEmpty) else if a = 3 then (b == 0 && decide (s.length ≤ 100)) else false
theorem specValueOk_is (a b : Int) (s : ByteArray) : spec_ValueOk.f a b s = some (okV a b s.data.toList) := by
  unfold spec_ValueOk.f okV spec_l01In.f
  have he : (s.toList == ([] : List UInt8)) = s.data.toList.isEmpty := by rw [toList_data]; cases s.data.toList <;> rfl
  rw [he, size_data]
  by_cases h0 : a = 0
  · by_cases hb : b = 0 <;> simp [h0, hb]
  · by_cases h1 : a = 1
    · simp [h1]
    · by_cases h2 : a = 2
      · by_cases hb : 0 ≤ b
        · by_cases hb' : b ≤ 1 <;> simp [h2, hb, hb']
        · simp [h2, hb]
      · by_cases h3 : a = 3
        · by_cases hb : b = 0
          · simp [h3, hb]
            omega
          · simp [h3, hb]
        · simp [h0, h1, h2, h3]
theorem implValueOk_is (a b : Int) (s : ByteArray) : impl_ValueOk.f a b s = some (okV a b s.data.toList) := specValueOk_is a b s
theorem bigStep_eq (n : Int) (c : UInt8) : bigStep n c = bits .or .i64 (wrap64 (n * 256)) (c.toNat : Int) := rfl
theorem bigFold_snoc (l : List UInt8) (c : UInt8) (ih : l.foldl bigStep 0 = wrap64 (beN l : Int)) : (l ++ [c]).foldl bigStep 0 = wrap64 (beN (l ++ [c]) : Int) := by
  have e : ((beN l * 256 + c.toNat : Nat) : Int) = (beN l : Int) * 256 + (c.toNat : Int) := by omega
  rw [List.foldl_append, ih, beN_snoc, e, List.foldl_cons, List.foldl_nil, bigStep_eq]
  exact be_step _ _ c.toNat_lt
theorem bigFold_nil : ([] : List UInt8).foldl bigStep 0 = wrap64 (beN [] : Int) := by
  rw [beN_nil, List.foldl_nil]
  unfold wrap64
  omega
theorem bigFold_is (l : List UInt8) : l.foldl bigStep 0 = wrap64 (beN l : Int) :=
  snoc_ind (p := fun l => l.foldl bigStep 0 = wrap64 (beN l : Int)) bigFold_nil bigFold_snoc l
theorem bigPre_is (l : List UInt8) : bigPre (mkB l) (mkB l).size = wrap64 (beN l : Int) := by
  unfold bigPre
  rw [mkB_size, mkB_data, List.take_length, bigFold_is]
theorem bigOf_is (l : List UInt8) (hl : l.length ≤ 9223372036854775807) : impl_bigOf.f (mkB l) = some (wrap64 (beN l : Int)) := by
  unfold impl_bigOf.f
  have h : (mkB l).size ≤ 9223372036854775807 := by rw [mkB_size]; exact hl
  rw [if_pos h, bigPre_is]
theorem wrap_zero : wrap64 (beN [] : Int) = 0 := by
  rw [beN_nil]
  unfold wrap64
  omega
theorem bigOf_nil : impl_bigOf.f (mkB []) = some 0 := by
  rw [bigOf_is [] (Nat.zero_le _), wrap_zero]
theorem take_bad (s : ByteArray) (i n : Int) : impl_reader_take.f s i true n = some (mkB [], s, i, true) := by
  unfold impl_reader_take.f
  rw [if_pos rfl]
  rfl
theorem take_short (s : ByteArray) (i n : Nat) (hi : i ≤ s.size) (hs : s.size ≤ 1099511627776) (h : s.size < i + n) (hn : n ≤ 1099511627776) : impl_reader_take.f s i false n = some (mkB [], s, (i : Int), true) := by
  unfold impl_reader_take.f
  rw [if_neg (by simp), wrap_id (x := (s.size : Int) - (i : Int)) (by omega) (by omega), if_pos (by omega)]
  rfl
theorem take_ok (s : ByteArray) (i n : Nat) (hs : s.size ≤ 1099511627776) (h : i + n ≤ s.size) : impl_reader_take.f s i false n = some (mkB ((s.data.toList.drop i).take n), s, ((i + n : Nat) : Int), false) := by
  have e1 : wrap64 ((i : Int) + (n : Int)) = ((i + n : Nat) : Int) := by rw [wrap_id (by omega) (by omega)]; omega
  have e2 : wrap64 (((i + n : Nat) : Int) - (n : Int)) = (i : Int) := by rw [wrap_id (by omega) (by omega)]; omega
  unfold impl_reader_take.f
  rw [if_neg (by simp), wrap_id (x := (s.size : Int) - (i : Int)) (by omega) (by omega), if_neg (by omega)]
  simp only [e1, e2]
  rw [if_pos (by omega), if_pos (by omega), if_pos (by omega), extract_mk, Int.toNat_natCast, Int.toNat_natCast, show i + n - i = n by omega]
theorem size_bad (s : ByteArray) (i n : Int) : impl_reader_size.f s i true n = some (0, s, i, true) := by
  unfold impl_reader_size.f
  rw [take_bad]
  simp only [Option.bind_some]
  rw [bigOf_nil]
  rfl
theorem size_short (s : ByteArray) (i n : Nat) (hi : i ≤ s.size) (hs : s.size ≤ 1099511627776) (h : s.size < i + n) (hn : n ≤ 1099511627776) : impl_reader_size.f s i false n = some (0, s, (i : Int), true) := by
  unfold impl_reader_size.f
  rw [take_short s i n hi hs h hn]
  simp only [Option.bind_some]
  rw [bigOf_nil]
  rfl
theorem size_ok (s : ByteArray) (i n : Nat) (hs : s.size ≤ 1099511627776) (h : i + n ≤ s.size) : impl_reader_size.f s i false n = some (wrap64 (beN ((s.data.toList.drop i).take n) : Int), s, ((i + n : Nat) : Int), false) := by
  unfold impl_reader_size.f
  rw [take_ok s i n hs h]
  simp only [Option.bind_some]
  have hl : ((s.data.toList.drop i).take n).length ≤ n := List.length_take_le _ _
  rw [bigOf_is _ (by omega)]
  rfl
theorem value_bad (s : ByteArray) (i : Int) : impl_reader_value.f s i true = some (0, 0, mkB [], s, i, true) := by
  unfold impl_reader_value.f
  rw [size_bad]
  simp
  rfl
theorem drop_cons_at {s : ByteArray} {i : Nat} {c : UInt8} {t : List UInt8} (h : s.data.toList.drop i = c :: t) : i < s.size ∧ s.data.toList.drop (i + 1) = t ∧ t.length = s.size - i - 1 := by
  have h1 := congrArg List.length h
  rw [List.length_drop, ← size_data, List.length_cons] at h1
  have h2 : s.data.toList.drop (i + 1) = t := by
    have := congrArg (List.drop 1) h
    rwa [List.drop_drop] at this
  exact ⟨by omega, h2, by omega⟩
theorem wrap_byte (c : UInt8) : wrap64 (c.toNat : Int) = (c.toNat : Int) := by have := c.toNat_lt; exact wrap_id (by omega) (by omega)
theorem value_is (s : ByteArray) (i : Nat) (hi : i ≤ s.size) (hs : s.size ≤ 1099511627000) :
    (∃ a b x n, getV (s.data.toList.drop i) = some ((a, b, x), n) ∧ impl_reader_value.f s i false = some (a, b, mkB x, s, ((i + n : Nat) : Int), false) ∧ i + n ≤ s.size) ∨
    (getV (s.data.toList.drop i) = none ∧ ∃ (a b : Int) (x : ByteArray) (j : Nat), impl_reader_value.f s i false = some (a, b, x, s, (j : Int), true) ∧ j ≤ s.size) := by
  cases hd : s.data.toList.drop i with
  | nil =>
    have hl := congrArg List.length hd
    rw [List.length_drop, ← size_data, List.length_nil] at hl
    refine .inr ⟨rfl, 0, 0, mkB [], i, ?_, hi⟩
    unfold impl_reader_value.f
    rw [show (1 : Int) = ((1 : Nat) : Int) from rfl, size_short s i 1 hi (by omega) (by omega) (by omega)]
    simp
    rfl
  | cons c t =>
    obtain ⟨hlt, ht, htl⟩ := drop_cons_at hd
    have hc := c.toNat_lt
    have h1 : impl_reader_size.f s i false 1 = some ((c.toNat : Int), s, ((i + 1 : Nat) : Int), false) := by
      rw [show (1 : Int) = ((1 : Nat) : Int) from rfl, size_ok s i 1 (by omega) (by omega), hd]
      simp only [List.take_succ_cons, List.take_zero, beN_one, wrap_byte]
    unfold impl_reader_value.f getV
    rw [h1]
    simp only [Option.bind_some]
    by_cases c1 : c.toNat = 1
    · rw [if_pos (show (c.toNat : Int) = 1 by omega), if_pos c1]
      by_cases h8 : 8 ≤ t.length
      · rw [show (8 : Int) = ((8 : Nat) : Int) from rfl, size_ok s (i + 1) 8 (by omega) (by omega), ht, if_pos h8]
        simp only [Option.bind_some, implValueOk_is]
        refine .inl ⟨_, _, _, _, rfl, ?_, by omega⟩
        have ho : okV (c.toNat : Int) (wrap64 (beN (t.take 8) : Int)) (⟨#[]⟩ : ByteArray).data.toList = true := by simp [okV, c1]
        rw [ho]
        simp [c1]
        exact ⟨rfl, by omega⟩
      · rw [show (8 : Int) = ((8 : Nat) : Int) from rfl, size_short s (i + 1) 8 (by omega) (by omega) (by omega) (by omega), if_neg h8]
        exact .inr ⟨rfl, (c.toNat : Int), 0, ⟨#[]⟩, i + 1, by simp, by omega⟩
    · rw [if_neg (show ¬ (c.toNat : Int) = 1 by omega), if_neg c1]
      by_cases c2 : c.toNat = 2
      · rw [if_pos (show (c.toNat : Int) = 2 by omega), if_pos c2]
        cases t with
        | nil =>
          rw [show (1 : Int) = ((1 : Nat) : Int) from rfl, size_short s (i + 1) 1 (by omega) (by omega) (by simp at htl; omega) (by omega)]
          exact .inr ⟨rfl, (c.toNat : Int), 0, ⟨#[]⟩, i + 1, by simp, by omega⟩
        | cons b u =>
          rw [List.length_cons] at htl
          rw [show (1 : Int) = ((1 : Nat) : Int) from rfl, size_ok s (i + 1) 1 (by omega) (by omega), ht]
          simp only [List.take_succ_cons, List.take_zero, beN_one, wrap_byte, Option.bind_some, implValueOk_is]
          have ho : okV (c.toNat : Int) (b.toNat : Int) (⟨#[]⟩ : ByteArray).data.toList = decide (b.toNat ≤ 1) := by simp [okV, c2]; omega
          rw [ho]
          by_cases hb : b.toNat ≤ 1
          · rw [if_pos hb]
            exact .inl ⟨_, _, _, _, rfl, by simp [hb, c2]; exact ⟨rfl, by omega⟩, by omega⟩
          · rw [if_neg hb]
            exact .inr ⟨rfl, (c.toNat : Int), (b.toNat : Int), ⟨#[]⟩, i + 1 + 1, by simp [hb], by omega⟩
      · rw [if_neg (show ¬ (c.toNat : Int) = 2 by omega), if_neg c2]
        by_cases c3 : c.toNat = 3
        · rw [if_pos (show (c.toNat : Int) = 3 by omega), if_pos c3]
          cases t with
          | nil =>
            rw [show (1 : Int) = ((1 : Nat) : Int) from rfl, size_short s (i + 1) 1 (by omega) (by omega) (by simp at htl; omega) (by omega)]
            simp only [Option.bind_some, take_bad]
            exact .inr ⟨by first | rfl | trivial, (c.toNat : Int), 0, mkB [], i + 1, by simp, by omega⟩
          | cons m u =>
            rw [List.length_cons] at htl
            have hm := m.toNat_lt
            have hu : s.data.toList.drop (i + 1 + 1) = u := (drop_cons_at ht).2.1
            rw [show (1 : Int) = ((1 : Nat) : Int) from rfl, size_ok s (i + 1) 1 (by omega) (by omega), ht]
            simp only [List.take_succ_cons, List.take_zero, beN_one, wrap_byte, Option.bind_some]
            by_cases hl : m.toNat ≤ u.length
            · rw [take_ok s (i + 1 + 1) m.toNat (by omega) (by omega), hu]
              simp only [Option.bind_some, implValueOk_is, mkB_data]
              have ho : okV (c.toNat : Int) 0 (u.take m.toNat) = decide (m.toNat ≤ 100) := by simp [okV, c3]; omega
              rw [ho]
              by_cases hb : m.toNat ≤ 100
              · rw [if_pos ⟨hb, hl⟩]
                exact .inl ⟨_, _, _, _, rfl, by simp [hb, c3]; omega, by omega⟩
              · rw [if_neg (by omega)]
                exact .inr ⟨rfl, (c.toNat : Int), 0, mkB (u.take m.toNat), i + 1 + 1 + m.toNat, by simp [hb], by omega⟩
            · rw [take_short s (i + 1 + 1) m.toNat (by omega) (by omega) (by omega) (by omega), if_neg (by omega)]
              simp only [Option.bind_some]
              exact .inr ⟨by first | rfl | trivial, (c.toNat : Int), 0, mkB [], i + 1 + 1, by simp, by omega⟩
        · rw [if_neg (show ¬ (c.toNat : Int) = 3 by omega), if_neg c3]
          simp only [implValueOk_is, Option.bind_some]
          by_cases c0 : c.toNat = 0
          · rw [if_pos c0]
            have ho : okV (c.toNat : Int) 0 (⟨#[]⟩ : ByteArray).data.toList = true := by simp [okV, c0]
            rw [ho]
            exact .inl ⟨_, _, _, _, rfl, by simp [c0]; rfl, by omega⟩
          · rw [if_neg c0]
            have ho : okV (c.toNat : Int) 0 (⟨#[]⟩ : ByteArray).data.toList = false := by simp [okV, c0, c1, c2, c3]; omega
            rw [ho]
            exact .inr ⟨rfl, (c.toNat : Int), 0, ⟨#[]⟩, i + 1, by simp, by omega⟩
theorem implGetValue_is (s : ByteArray) (i : Int) (hs : s.size ≤ 1099511627000) : impl_GetValue.f s i = some (getAt s i) := by
  unfold impl_GetValue.f impl_within.f getAt
  by_cases h0 : 0 ≤ i
  · obtain ⟨j, rfl⟩ := Int.eq_ofNat_of_zero_le h0
    rw [if_pos h0]
    by_cases h1 : (j : Int) ≤ (s.size : Int)
    · simp only [Option.bind_some, h1, decide_true, if_true, h0, and_self, Int.toNat_natCast]
      rcases value_is s j (by omega) hs with ⟨a, b, x, n, hg, hv, hn⟩ | ⟨hg, a, b, x, k, hv, _⟩
      · rw [hg, hv]
        simp [packV]
      · rw [hg, hv]
        simp [packV]
        rfl
    · simp only [Option.bind_some, h1, decide_false, and_false, if_false, Bool.false_eq_true]
      rfl
  · rw [if_neg h0]
    simp only [Option.bind_some, h0, false_and, if_false, Bool.false_eq_true]
    rfl
theorem bt_at' {s : ByteArray} {i : Nat} {c : UInt8} {t : List UInt8} (h : s.data.toList.drop i = c :: t) : bt s (i : Int) = (c.toNat : Int) := by
  rw [bt_data, Int.toNat_natCast]
  have : s.data.toList.getD i 0 = c := by
    have h2 := congrArg (fun l : List UInt8 => l.getD 0 0) h
    simpa [List.getD_eq_getElem?_getD, List.getElem?_drop] using h2
  rw [this]
theorem bt_off {s : ByteArray} {i : Nat} {t : List UInt8} (h : s.data.toList.drop (i + 1) = t) (m : Nat) : bt s ((i + 1 + m : Nat) : Int) = ((t.getD m 0).toNat : Int) := by
  rw [bt_data, Int.toNat_natCast, ← h]
  simp [List.getD_eq_getElem?_getD, List.getElem?_drop]
theorem specLoop_is (s : ByteArray) (i : Nat) (t : List UInt8) (ht : s.data.toList.drop (i + 1) = t) (hl : 8 ≤ t.length) (hs : s.size ≤ 1099511627000) (htl : t.length = s.size - i - 1) (hi : i < s.size) :
    ∀ (d m : Nat), m + d = 8 → Ev (fun k => spec_GetValue.l0 k s (i : Int) (beN (t.take m) : Int) ((m + 1 : Nat) : Int) 1 0 (⟨#[]⟩ : ByteArray)) (1, wrap64 (beN (t.take 8) : Int), mkB [], ((i + 9 : Nat) : Int)) := by
  intro d
  induction d with
  | zero =>
    intro m hm
    obtain rfl : m = 8 := by omega
    refine Ev.step (fun k => rfl) (ev_if_neg (by omega) (ev_bind0 (specValueOk_is _ _ _) ?_))
    have ho : okV 1 (wrap64 (beN (t.take 8) : Int)) (⟨#[]⟩ : ByteArray).data.toList = true := rfl
    rw [ho]
    refine ev_if_pos rfl (ev_conv (ev_some fun _ => rfl) ?_)
    rw [wrap_id (x := (i : Int) + 9) (by omega) (by omega)]
    rfl
  | succ d ih =>
    intro m hm
    have e1 : wrap64 ((i : Int) + ((m + 1 : Nat) : Int)) = ((i + 1 + m : Nat) : Int) := by rw [wrap_id (by omega) (by omega)]; omega
    have e2 : wrap64 (((m + 1 : Nat) : Int) + 1) = ((m + 1 + 1 : Nat) : Int) := by rw [wrap_id (by omega) (by omega)]; omega
    have hml : m < t.length := by omega
    have hlt : beN (t.take m) < 256 ^ 7 := by
      refine Nat.lt_of_lt_of_le (beN_lt _) (Nat.pow_le_pow_right (by omega) ?_)
      rw [List.length_take]
      omega
    have hc := (t.getD m 0).toNat_lt
    have e3 : IntKind.u64.wrap (IntKind.u64.wrap (256 * (beN (t.take m) : Int)) + IntKind.u64.wrap ((t.getD m 0).toNat : Int)) = (beN (t.take (m + 1)) : Int) := by
      rw [List.take_succ_eq_append_getElem hml, beN_snoc]
      have eg : t.getD m 0 = t[m] := by rw [List.getD_eq_getElem?_getD, List.getElem?_eq_getElem hml]; rfl
      rw [← eg]
      obtain ⟨C, hC⟩ : ∃ C, C = (t.getD m 0).toNat := ⟨_, rfl⟩
      rw [← hC] at hc ⊢
      simp only [IntKind.wrap, IntKind.bits, IntKind.signed]
      simp
      omega
    refine Ev.step (fun k => rfl) (ev_if_pos (by omega) ?_)
    rw [e1]
    refine ev_if_pos (by omega) (ev_if_pos (by omega) ?_)
    rw [bt_off ht m, e3, e2]
    exact ih (m + 1) (by omega)
set_option maxHeartbeats 2000000 in
theorem specGetValue_is (s : ByteArray) (i : Int) (hs : s.size ≤ 1099511627000) : Ev (fun k => spec_GetValue.f k s i) (getAt s i) := by
  have hn : Ev (fun _ : Nat => some ((0, 0, (⟨#[]⟩ : ByteArray), (-1)) : Int × Int × ByteArray × Int)) (0, 0, mkB [], -1) := ev_some fun _ => rfl
  have hw : wrap64 ((s.size : Int) - 1) = (s.size : Int) - 1 := wrap_id (by omega) (by omega)
  unfold getAt
  rcases (show i < 0 ∨ 0 ≤ i by omega) with h0 | h0
  · rw [if_neg (by omega)]
    refine ev_bind0 (a := false) ?_ (ev_if_neg (by simp) hn)
    unfold spec_l01In.f
    rw [if_neg (by omega)]
  obtain ⟨j, rfl⟩ := Int.eq_ofNat_of_zero_le h0
  rcases (show ¬ j < s.size ∨ j < s.size by omega) with h1 | h1
  · refine ev_bind0 (a := false) ?_ (ev_if_neg (by simp) ?_)
    · unfold spec_l01In.f
      rw [if_pos (by omega), hw]
      simp
      omega
    · by_cases h2 : (j : Int) ≤ (s.size : Int)
      · rw [if_pos ⟨by omega, h2⟩, Int.toNat_natCast, List.drop_of_length_le (by rw [← size_data]; omega)]
        exact hn
      · rw [if_neg (by omega)]
        exact hn
  rw [if_pos ⟨by omega, by omega⟩, Int.toNat_natCast]
  cases hd : s.data.toList.drop j with
  | nil =>
    have hl := congrArg List.length hd
    rw [List.length_drop, ← size_data, List.length_nil] at hl
    omega
  | cons c t =>
    obtain ⟨_, ht, htl⟩ := drop_cons_at hd
    have hc := c.toNat_lt
    have e0 : wrap64 (bt s (j : Int)) = (c.toNat : Int) := by rw [bt_at' hd]; exact wrap_byte c
    have eb : ∀ b u, t = b :: u → wrap64 (bt s (wrap64 ((j : Int) + 1))) = (b.toNat : Int) := by
      rintro b u rfl
      rw [wrap_id (x := (j : Int) + 1) (by omega) (by omega), show (j : Int) + 1 = ((j + 1 : Nat) : Int) by omega, bt_at' ht]
      exact wrap_byte b
    have ed : wrap64 ((s.size : Int) - (j : Int)) = ((t.length + 1 : Nat) : Int) := by rw [wrap_id (by omega) (by omega)]; omega
    have e1 : wrap64 ((j : Int) + 1) = ((j + 1 : Nat) : Int) := by rw [wrap_id (by omega) (by omega)]; omega
    have e2 : wrap64 ((j : Int) + 2) = ((j + 2 : Nat) : Int) := by rw [wrap_id (by omega) (by omega)]; omega
    -- behind the three guards
    have j3no : ∀ (a : Int), a ≠ 0 → Ev (fun k => spec_GetValue.j3 k s (j : Int) 1 false a 0 (⟨#[]⟩ : ByteArray)) (0, 0, mkB [], -1) := fun a ha =>
      Ev.step (fun k => rfl) (ev_if_neg ha hn)
    refine ev_bind0 (a := true) ?_ (ev_if_pos rfl (ev_if_pos (by omega) (ev_if_pos (by omega) ?_)))
    · unfold spec_l01In.f
      rw [if_pos (by omega), hw]
      simp
      omega
    rw [e0, ed]
    unfold getV
    dsimp only
    by_cases c1 : c.toNat = 1
    · rw [if_pos c1]
      refine ev_if_pos (by omega) ?_
      by_cases h8 : 8 ≤ t.length
      · rw [if_pos h8]
        refine Ev.step (fun k => rfl) (ev_if_pos (by simp; omega) ?_)
        rw [c1]
        exact ev_conv (specLoop_is s j t ht h8 hs htl (by omega) 8 0 (by omega)) rfl
      · rw [if_neg h8]
        refine Ev.step (fun k => rfl) (ev_if_neg (by simp; omega) (ev_if_neg (by omega) (Ev.step (fun k => rfl) (ev_if_neg (by omega) (j3no _ (by omega))))))
    rw [if_neg c1]
    refine ev_if_neg (by omega) (Ev.step (fun k => rfl) ?_)
    by_cases c2 : c.toNat = 2
    · rw [if_pos c2]
      refine ev_if_pos (by omega) ?_
      rw [ed]
      cases t with
      | nil =>
        exact Ev.step (fun k => rfl) (ev_if_neg (by omega) (j3no _ (by omega)))
      | cons b u =>
        rw [List.length_cons] at htl
        refine Ev.step (fun k => rfl) (ev_if_pos (by simp; omega) ?_)
        rw [eb b u rfl, e1, e2]
        refine ev_if_pos (by omega) (ev_if_pos (by omega) (ev_bind0 (specValueOk_is _ _ _) ?_))
        have ho : okV (c.toNat : Int) (b.toNat : Int) (⟨#[]⟩ : ByteArray).data.toList = decide (b.toNat ≤ 1) := by simp [okV, c2]; omega
        rw [ho]
        by_cases hb : b.toNat ≤ 1
        · exact ev_if_pos (by simp [hb]) (ev_conv (ev_some fun _ => rfl) (by simp [packV, hb, c2]; rfl))
        · exact ev_if_neg (by simp [hb]) (ev_conv hn (by simp [packV, hb]))
    rw [if_neg c2]
    refine ev_if_neg (by omega) (Ev.step (fun k => rfl) ?_)
    by_cases c3 : c.toNat = 3
    · rw [if_pos c3]
      refine ev_if_pos (by omega) ?_
      rw [ed]
      cases t with
      | nil => exact ev_if_neg (by simp) (j3no _ (by omega))
      | cons m u =>
        rw [List.length_cons] at htl ed ⊢
        have hm := m.toNat_lt
        have hu : s.data.toList.drop (j + 2) = u := (drop_cons_at ht).2.1
        have q1 : 0 ≤ ((j + 1 : Nat) : Int) := by omega
        have q2 : ((j + 1 : Nat) : Int) < (s.size : Int) := by omega
        have q3 : 0 ≤ ((j + 2 : Nat) : Int) := by omega
        have q4 : ((j + 2 : Nat) : Int) ≤ ((j + (2 + m.toNat) : Nat) : Int) := by omega
        have q5 : m.toNat ≤ u.length → ((j + (2 + m.toNat) : Nat) : Int) ≤ (s.size : Int) := by omega
        have q6 : m.toNat ≤ u.length → decide ((u.length : Int) ≥ (m.toNat : Int)) = true := fun h => decide_eq_true (by omega)
        have q7 : ¬ m.toNat ≤ u.length → decide ((u.length : Int) ≥ (m.toNat : Int)) = false := fun h => decide_eq_false (by omega)
        have q8 : (c.toNat : Int) ≠ 0 := by omega
        have q9 : ((u.length + 1 + 1 : Nat) : Int) ≥ 2 := by omega
        have e4 : wrap64 (((u.length + 1 + 1 : Nat) : Int) - 2) = (u.length : Int) := by rw [wrap_id (by omega) (by omega)]; omega
        have e5 : wrap64 ((j : Int) + wrap64 (2 + (m.toNat : Int))) = ((j + (2 + m.toNat) : Nat) : Int) := by rw [wrap_id (x := 2 + (m.toNat : Int)) (by omega) (by omega), wrap_id (by omega) (by omega)]; omega
        have e6 := eb m u rfl
        rw [e1] at e6
        refine ev_if_pos q9 ?_
        rw [e1, e4, e6]
        refine ev_if_pos q1 (ev_if_pos q2 ?_)
        by_cases hl : m.toNat ≤ u.length
        · refine Ev.step (fun k => rfl) (ev_if_pos (q6 hl) ?_)
          rw [e1, e6, e2, e5]
          refine ev_if_pos q1 (ev_if_pos q2 (ev_if_pos q3 (ev_if_pos q4 (ev_if_pos (q5 hl) (ev_bind0 (specValueOk_is _ _ _) ?_)))))
          have hx : s.extract ((j + 2 : Nat) : Int).toNat ((j + (2 + m.toNat) : Nat) : Int).toNat = mkB (u.take m.toNat) := by
            rw [extract_mk, Int.toNat_natCast, Int.toNat_natCast, hu, show j + (2 + m.toNat) - (j + 2) = m.toNat by omega]
          rw [hx, mkB_data]
          have ho : okV (c.toNat : Int) 0 (u.take m.toNat) = decide (m.toNat ≤ 100) := by simp [okV, c3]; omega
          rw [ho]
          by_cases hb : m.toNat ≤ 100
          · exact ev_if_pos (by simp [hb]) (ev_conv (ev_some fun _ => rfl) (by simp [packV, hb, hl, c3]))
          · exact ev_if_neg (by simp [hb]) (ev_conv hn (by simp [packV, hb]))
        · rw [q7 hl]
          exact ev_conv (j3no (c.toNat : Int) q8) (by simp [packV, hl])
    rw [if_neg c3]
    refine ev_if_neg (by omega) (Ev.step (fun k => rfl) ?_)
    by_cases c0 : c.toNat = 0
    · rw [if_pos c0]
      refine ev_if_pos (by omega) (ev_bind0 (specValueOk_is _ _ _) ?_)
      have ho : okV (c.toNat : Int) 0 (⟨#[]⟩ : ByteArray).data.toList = true := by simp [okV, c0]
      rw [ho]
      refine ev_if_pos rfl (ev_conv (ev_some fun _ => rfl) ?_)
      rw [e1]
      simp [packV, c0]
      rfl
    · rw [if_neg c0]
      exact ev_if_neg (by omega) hn
end Go.Proofs.Ytioemnmabbdfgaa.PFnExactGetValue
