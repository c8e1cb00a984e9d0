/- 'FnExactWidth' returns true at every input that can be read: the program's Width and the reference's agree, and both arguments are left as they were. No condition. -/
import Derived.Test.YtnobhkmpkichdaaGreatRFnExactWidth
import Derived.Test.YtnobhkmpkichdaaGreatLFnExactWidth
namespace Go.Proofs.YtnobhkmpkichdaaGreat
open Go.RowKit Go.Proofs.YtnobhkmpkichdaaGreat.PFnExactWidth Go.Proofs.YtnobhkmpkichdaaGreatW.PrintWords Go.Proofs.YtnobhkmpkichdaaGreat.ZFnExactWidth
theorem okE_of : ∀ (n : Nat) (x : S27), RFnExactWidth.BN27 n x → okEN n x
  | 0, _, h => h.elim
  | n + 1, _, h => ⟨h.2.2.1.2.2, h.2.2.2.1, h.2.2.2.2.1, fun y hy => okE_of n y (h.2.2.2.2.2 y hy)⟩
theorem i64_of : ∀ (n : Nat) (x : S27), RFnExactWidth.BN27 n x → i64N n x
  | 0, _, h => h.elim
  | n + 1, _, h => ⟨h.2.1, fun y hy => i64_of n y (h.2.2.2.2.2 y hy)⟩
theorem of_BN : ∀ (n : Nat) (x : S30), RFnExactWidth.BN30 n x → ∃ E, ∀ e, E ≤ e → okP e n x ∧ i64P e n x
  | 0, _, h => h.elim
  | n + 1, x, h => by
    obtain ⟨_, h1, ⟨e2, h2⟩, ⟨l3, h3⟩, h4, l5, h5⟩ := h
    obtain ⟨K3, hK3⟩ := ev_all (xs := x.f3) (P := fun e y => okEN e y ∧ i64N e y) fun y hy => by
      obtain ⟨ey, hy'⟩ := h3 y hy
      exact ⟨ey, fun e he => ⟨okEN_mono ey e y he (okE_of ey y hy'), i64N_mono ey e y he (i64_of ey y hy')⟩⟩
    obtain ⟨K5, hK5⟩ := ev_all (xs := x.f5) (P := fun e y => okP e n y ∧ i64P e n y) fun y hy => of_BN n y (h5 y hy)
    exact ⟨max e2 (max K3 K5), fun e he => ⟨⟨h1, okEN_mono e2 e _ (by omega) (okE_of e2 _ h2), l3, fun y hy => (hK3 e (by omega) y hy).1, l5, fun y hy => (hK5 e (by omega) y hy).1⟩, ⟨i64N_mono e2 e _ (by omega) (i64_of e2 _ h2), fun y hy => (hK3 e (by omega) y hy).2, fun y hy => (hK5 e (by omega) y hy).2⟩⟩⟩
theorem fnExactWidth_pure : RFnExactWidth.Pure := by
  intro x0 x hx0 hx
  obtain ⟨n, hn⟩ := hx
  obtain ⟨E0, hE0⟩ := of_BN n x hn
  obtain ⟨ho, hi⟩ := hE0 (max E0 13) (by omega)
  obtain ⟨E, hE⟩ : ∃ E, E = max E0 13 := ⟨_, rfl⟩
  rw [← hE] at ho hi
  have h13 : 13 ≤ E := by omega
  clear hE hE0 hn
  refine Ev.rounds (Ev.bind (szRelS_is x0 hx0.1 (fun z hz => ⟨(hx0.2 z hz).1, (hx0.2 z hz).2.2.1, fun u hu => ⟨((hx0.2 z hz).2.2.2 u hu).1.1, fun v hv => (((hx0.2 z hz).2.2.2 u hu).1.2 v hv).2.2⟩⟩) 1048576 (by omega) (by omega)) ?_)
  by_cases h : lft 1048576 (wtRS x0) < 0
  · exact ev_if_pos h (ev_some fun _ => rfl)
  refine ev_if_neg h ?_
  obtain ⟨h1, h2⟩ := lft_nonneg h
  obtain ⟨b0, b0'⟩ := rel_bounds h1 (by omega)
  obtain ⟨K1, hK1⟩ := szPlan_is E n x ho
  have e1 : Ev (fun k => laws_szPlan.f k x.f0 x.f1 x.f2.f0 x.f2.f1 x.f2.f2.f0 x.f2.f2.f1 x.f2.f2.f2 x.f2.f3 x.f2.f4 x.f3 x.f4 x.f5 (lft 1048576 (wtRS x0))) (lft (lft 1048576 (wtRS x0)) (wtP E n x)) := ⟨K1, fun k hk => hK1 k hk _ (by omega) (by omega)⟩
  refine Ev.bind e1 ?_
  by_cases hw : (wtP E n x : Int) ≤ lft 1048576 (wtRS x0)
  case neg => exact ev_if_pos (by rw [lft_of_gt hw]; omega) (ev_some fun _ => rfl)
  have hw' : wtP E n x ≤ 1048576 := by omega
  refine ev_if_neg (by rw [lft_of_le hw]; omega) ?_
  have t0 := toRelS_is x0 (by omega) b0'
  have ml0 : (x0.map toR).length ≤ 1048576 := by simpa using b0
  have e0 := eqRelS_refl (x0.map toR) (by omega) (toR_len b0')
  have e2 : Ev (fun k => laws_toPlan.f k x.f0 x.f1 x.f2.f0 x.f2.f1 x.f2.f2.f0 x.f2.f2.f1 x.f2.f2.f2 x.f2.f3 x.f2.f4 x.f3 x.f4 x.f5) _ := toPlan_is E n x ho hw'
  have e4 := eqPlan_refl E n x ho hw'
  obtain ⟨fs, fi⟩ := width_both E (x0.map toR) ml0 (toPN E n x) (gdP_to E h13 n 9 x ho hi hw')
  generalize toPN E n x = y at *
  exact Ev.bind t0 (Ev.bind e2 (Ev.bind fs (Ev.bind t0 (Ev.bind e2 (Ev.bind fi (ev_if_pos rfl (Ev.bind t0 (Ev.bind e0 (ev_if_pos rfl (Ev.bind e2 (Ev.bind e4 (ev_some fun _ => by simp))))))))))))
theorem fnExactWidth_holds : Rows.FnExactWidthSaid := RFnExactWidth.of_pure fnExactWidth_pure
#print axioms fnExactWidth_holds
end Go.Proofs.YtnobhkmpkichdaaGreat
