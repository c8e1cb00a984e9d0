/- 'FnExactViewsOk' returns true at every input that can be read: the program's ViewsOk and the reference's agree, and both arguments are left as they were. No condition. -/
import Derived.Test.YtnobhkmpkichdaaGreatRFnExactViewsOk
import Derived.Test.YtnobhkmpkichdaaGreatLFnExactViewsOk
namespace Go.Proofs.YtnobhkmpkichdaaGreat
open Go.RowKit Go.Proofs.YtnobhkmpkichdaaGreat.PFnExactViewsOk Go.Proofs.YtnobhkmpkichdaaGreatW.PrintWords Go.Proofs.YtnobhkmpkichdaaGreat.ZFnExactViewsOk
theorem aSi : ∀ (n : Nat) (x : S27), RFnExactViewsOk.aWz n x → aNy n x
  | 0, _, h => h.elim
  | n + 1, _, h => ⟨h.2.2.1.2.2, h.2.2.2.1, h.2.2.2.2.1, fun y hy => aSi n y (h.2.2.2.2.2 y hy)⟩
theorem aSl : ∀ (n : Nat) (x : S27), RFnExactViewsOk.aWz n x → aTt n x
  | 0, _, h => h.elim
  | n + 1, _, h => ⟨h.2.1, fun y hy => aSl n y (h.2.2.2.2.2 y hy)⟩
theorem aXs : ∀ (n : Nat) (x : S30), RFnExactViewsOk.aUx n x → ∃ E, ∀ e, E ≤ e → okP e n x ∧ aWk e n x
  | 0, _, h => h.elim
  | n + 1, x, h => by
    obtain ⟨_, h1, ⟨e2, h2⟩, ⟨l3, h3⟩, h4, l5, h5⟩ := h
    obtain ⟨K3, hK3⟩ := aEl (xs := x.f3) (P := fun e y => aNy e y ∧ aTt e y) fun y hy => by
      obtain ⟨ey, hy'⟩ := h3 y hy
      exact ⟨ey, fun e he => ⟨aJt ey e y he (aSi ey y hy'), aIu ey e y he (aSl ey y hy')⟩⟩
    obtain ⟨K5, hK5⟩ := aEl (xs := x.f5) (P := fun e y => okP e n y ∧ aWk e n y) fun y hy => aXs n y (h5 y hy)
    exact ⟨max e2 (max K3 K5), fun e he => ⟨⟨h1, aJt e2 e _ (by omega) (aSi e2 _ h2), l3, fun y hy => (hK3 e (by omega) y hy).1, l5, fun y hy => (hK5 e (by omega) y hy).1⟩, ⟨aIu e2 e _ (by omega) (aSl e2 _ h2), fun y hy => (hK3 e (by omega) y hy).2, fun y hy => (hK5 e (by omega) y hy).2⟩⟩⟩
theorem aMx : ∀ (n m : Nat) (x : S30), n ≤ m → RFnExactViewsOk.aUx n x → RFnExactViewsOk.aUx m x
  | 0, _, _, _, h => h.elim
  | n + 1, 0, _, hm, _ => absurd hm (by omega)
  | n + 1, m + 1, _, hm, h => ⟨h.1, h.2.1, h.2.2.1, h.2.2.2.1, h.2.2.2.2.1, h.2.2.2.2.2.1, fun y hy => aMx n m y (by omega) (h.2.2.2.2.2.2 y hy)⟩
theorem aGn : RFnExactViewsOk.Pure := by
  intro x0 x1 hx0 hx1
  obtain ⟨n, hn⟩ := aEl (xs := x1) (P := fun n y => RFnExactViewsOk.aUx n y.f1) fun y hy => by
    obtain ⟨m, hm⟩ := (hx1.2 y hy).2.1
    exact ⟨m, fun k hk => aMx m k _ hk hm⟩
  obtain ⟨E0, hE0⟩ := aEl (xs := x1) (P := fun e y => okP e n y.f1 ∧ aWk e n y.f1) fun y hy => aXs n y.f1 (hn n (Nat.le_refl n) y hy)
  obtain ⟨E, hE⟩ : ∃ E, E = max E0 13 := ⟨_, rfl⟩
  have hoi : ∀ y ∈ x1, okP E n y.f1 ∧ aWk E n y.f1 := fun y hy => hE0 E (by omega) y hy
  have h13 : 13 ≤ E := by omega
  clear hE hE0 hn
  refine Ev.rounds (Ev.bind (aSk x0 hx0.1 (fun z hz => ⟨(hx0.2 z hz).1, (hx0.2 z hz).2.2.1, fun u hu => ⟨((hx0.2 z hz).2.2.2 u hu).1.1, fun v hv => (((hx0.2 z hz).2.2.2 u hu).1.2 v hv).2.2⟩⟩) 1048576 (by omega) (by omega)) ?_)
  by_cases h : lft 1048576 (aWg x0) < 0
  · exact aAb h (aAf fun _ => rfl)
  refine aAd h ?_
  obtain ⟨h1, h2⟩ := aPo h
  obtain ⟨b0, b0'⟩ := aQi h1 (by omega)
  have ov : ∀ y ∈ x1, aYn E n y := fun y hy => ⟨(hx1.2 y hy).1, (hoi y hy).1, (hx1.2 y hy).2.2.2.1, fun u hu => ⟨((hx1.2 y hy).2.2.2.2 u hu).1.1, fun v hv => (((hx1.2 y hy).2.2.2.2 u hu).1.2 v hv).2.2⟩⟩
  refine Ev.bind (aQj E n x1 hx1.1 ov (lft 1048576 (aWg x0)) (by omega) (by omega)) ?_
  by_cases hw : (aTa E n x1 : Int) ≤ lft 1048576 (aWg x0)
  case neg => exact aAb (by rw [aBd hw]; omega) (aAf fun _ => rfl)
  obtain ⟨b1, b1'⟩ := aQq hw (by omega)
  refine aAd (by rw [aBl hw]; omega) ?_
  have tb : ∀ y ∈ x1, okP E n y.f1 ∧ wtP E n y.f1 ≤ 1048576 ∧ aNm y.f2.f1 ≤ 1048576 := fun y hy => ⟨(hoi y hy).1, b1' y hy⟩
  have t0 := aSe x0 (by omega) b0'
  have t1 := aPu E n x1 b1 tb
  have e0 := aNz (x0.map toR) (by rw [List.length_map]; omega) (aUp b0')
  have e1 := aNg E n x1 b1 tb
  have hd : aXw (x0.map toR) := ⟨by simpa using b0, fun z hz => by
    obtain ⟨y, hy, rfl⟩ := List.mem_map.1 hz
    exact ⟨(hx0.2 y hy).1, by have := (b0' y hy).1; simpa [toR] using this, aOa (b0' y hy).2⟩⟩
  have ml1 : (x1.map (aUm E n)).length ≤ 1048576 := by simpa using b1
  have hv : ∀ z ∈ x1.map (aUm E n), z.f0.size ≤ 9223372036854775807 ∧ gdP E 9 z.f1 := fun z hz => by
    obtain ⟨y, hy, rfl⟩ := List.mem_map.1 hz
    exact ⟨(hx1.2 y hy).1, aUd E h13 n 9 y.f1 (hoi y hy).1 (hoi y hy).2 (b1' y hy).1⟩
  generalize x1.map (aUm E n) = vs at *
  generalize x0.map toR = db at *
  obtain ⟨r, hr⟩ : ∃ r : Bool, r = true ↔ VwP db vs := by
    by_cases hp : VwP db vs
    · exact ⟨true, by simp [hp]⟩
    · exact ⟨false, by simp [hp]⟩
  have fs := UF E db hd vs ml1 hv r hr
  have fi := UB E db hd vs ml1 hv r hr
  exact Ev.bind t0 (Ev.bind t1 (Ev.bind fs (Ev.bind t0 (Ev.bind t1 (Ev.bind fi (aAd (by simp) (Ev.bind t0 (Ev.bind e0 (aAb rfl (Ev.bind t1 (Ev.bind e1 (aAb rfl (aAf fun _ => rfl)))))))))))))
theorem fnExactViewsOk_holds : Rows.FnExactViewsOkSaid := RFnExactViewsOk.aVe aGn
#print axioms fnExactViewsOk_holds
end Go.Proofs.YtnobhkmpkichdaaGreat
