/- 'FnExactChangeOk' returns true at every input that can be read: the program's ChangeOk and the reference's agree, and both arguments are left as they were. No condition. -/
import Derived.Test.YtapgfamppnhnmaaRFnExactChangeOk
import Derived.Test.YtapgfamppnhnmaaLFnExactChangeOk
namespace Go.Proofs.Ytapgfamppnhnmaa
open Go.RowKit Go.Proofs.Ytapgfamppnhnmaa.PFnExactChangeOk Go.Proofs.YtapgfamppnhnmaaW.PrintWords Go.Proofs.Ytapgfamppnhnmaa.ZFnExactChangeOk
open Classical in
theorem fnExactChangeOk_pure : RFnExactChangeOk.Pure := by
  intro x0 x1 hx0 hx1
  refine Ev.rounds (Ev.bind (szRelS_is x0 hx0.1 (fun z hz => ⟨(hx0.2 z hz).1, (hx0.2 z hz).2.2.1, fun u hu => ⟨((hx0.2 z hz).2.2.2 u hu).1.1, fun v hv => (((hx0.2 z hz).2.2.2 u hu).1.2 v hv).2.2⟩⟩) 1048576 (by omega) (by omega)) ?_)
  by_cases h : lft 1048576 (wtRS x0) < 0
  · exact ev_if_pos h (ev_some fun _ => rfl)
  refine ev_if_neg h ?_
  obtain ⟨h1, h2⟩ := lft_nonneg h
  obtain ⟨b0, b0'⟩ := rel_bounds h1 (by omega)
  refine Ev.bind (szRelS_is x1 hx1.1 (fun z hz => ⟨(hx1.2 z hz).1, (hx1.2 z hz).2.2.1, fun u hu => ⟨((hx1.2 z hz).2.2.2 u hu).1.1, fun v hv => (((hx1.2 z hz).2.2.2 u hu).1.2 v hv).2.2⟩⟩) _ (by omega) (by omega)) ?_
  by_cases h' : lft (lft 1048576 (wtRS x0)) (wtRS x1) < 0
  · exact ev_if_pos h' (ev_some fun _ => rfl)
  refine ev_if_neg h' ?_
  obtain ⟨h3, h4⟩ := lft_nonneg h'
  obtain ⟨b1, b1'⟩ := rel_bounds h3 (by omega)
  have t0 := toRelS_is x0 (by omega) b0'
  have t1 := toRelS_is x1 (by omega) b1'
  have ml0 : (x0.map toR).length ≤ 1048576 := by simpa using b0
  have ml1 : (x1.map toR).length ≤ 1048576 := by simpa using b1
  have e0 := eqRelS_refl (x0.map toR) (by omega) (toR_len b0')
  have e1 := eqRelS_refl (x1.map toR) (by omega) (toR_len b1')
  have hs0 : ∀ z ∈ x0.map toR, z.f0.size ≤ 9223372036854775807 ∧ z.f1.f1.length ≤ 1048576 ∧ ∀ y ∈ z.f1.f1, y.f0.length ≤ 1048576 := by
    intro z hz
    obtain ⟨u, hu, rfl⟩ := List.mem_map.1 hz
    exact ⟨(hx0.2 u hu).1, by have := (b0' u hu).1; simpa [toR] using this, toC_len (b0' u hu).2⟩
  have hs1 : ∀ z ∈ x1.map toR, z.f0.size ≤ 9223372036854775807 ∧ z.f1.f1.length ≤ 1048576 ∧ ∀ y ∈ z.f1.f1, y.f0.length ≤ 1048576 := by
    intro z hz
    obtain ⟨u, hu, rfl⟩ := List.mem_map.1 hz
    exact ⟨(hx1.2 u hu).1, by have := (b1' u hu).1; simpa [toR] using this, toC_len (b1' u hu).2⟩
  refine Ev.bind t0 (Ev.bind t1 (Ev.bind (spec_changeOk_is _ _ ml0 hs0 ml1 hs1) (Ev.bind t0 (Ev.bind t1 (Ev.bind (impl_changeOk_is _ _ ml0 hs0 ml1 hs1) (ev_if_neg (by simp) (Ev.bind t0 (Ev.bind e0 (ev_if_pos rfl (Ev.bind t1 (Ev.bind e1 (ev_some fun _ => by simp))))))))))))
theorem fnExactChangeOk_holds : Rows.FnExactChangeOkSaid := RFnExactChangeOk.of_pure fnExactChangeOk_pure
#print axioms fnExactChangeOk_holds
end Go.Proofs.Ytapgfamppnhnmaa
