/- 'FnExactDbOk' returns true at every input that can be read: the program's DbOk and the reference's agree, and the database is left as it was. No condition. -/
import Derived.Test.YtmkllhkhiefbnaaRFnExactDbOk
import Derived.Test.YtmkllhkhiefbnaaLFnExactDbOk
namespace Go.Proofs.Ytmkllhkhiefbnaa
open Go.RowKit Go.Proofs.Ytmkllhkhiefbnaa.PFnExactDbOk Go.Proofs.YtmkllhkhiefbnaaW.PrintWords Go.Proofs.Ytmkllhkhiefbnaa.ZFnExactDbOk
open Classical in
theorem fnExactDbOk_pure : RFnExactDbOk.Pure := by
  intro x hx
  refine Ev.rounds (Ev.bind (szRelS_is x hx.1 (fun z hz => ⟨(hx.2 z hz).1, (hx.2 z hz).2.2.1, fun u hu => ⟨((hx.2 z hz).2.2.2 u hu).1.1, fun v hv => (((hx.2 z hz).2.2.2 u hu).1.2 v hv).2.2⟩⟩) 1048576 (by omega) (by omega)) ?_)
  by_cases h : lft 1048576 (wtRS x) < 0
  · exact ev_if_pos h (ev_some fun _ => rfl)
  refine ev_if_neg h ?_
  obtain ⟨h1, h2⟩ := lft_nonneg h
  obtain ⟨bx, bx'⟩ := rel_bounds h1 (by omega)
  have tx := toRelS_is x (by omega) bx'
  have ml : (x.map toR).length ≤ 1048576 := by simpa using bx
  have mx : (x.map toR).length ≤ 9223372036854775807 := by omega
  have ex := eqRelS_refl _ mx (toR_len bx')
  have hs : ∀ z ∈ x.map toR, z.f0.size ≤ 9223372036854775807 ∧ z.f1.f1.length ≤ 1048576 ∧ ∀ y ∈ z.f1.f1, y.f0.length ≤ 1048576 := by
    intro z hz
    obtain ⟨u, hu, rfl⟩ := List.mem_map.1 hz
    exact ⟨(hx.2 u hu).1, by have := (bx' u hu).1; simpa [toR] using this, toC_len (bx' u hu).2⟩
  exact Ev.bind tx (Ev.bind (spec_dbOk_is _ ml hs (decide (DbP (x.map toR))) decide_eq_true_iff) (Ev.bind tx (Ev.bind (impl_dbOk_is _ ml hs (decide (DbP (x.map toR))) decide_eq_true_iff) (ev_if_neg (by simp) (Ev.bind tx (Ev.bind ex (ev_some fun _ => by simp)))))))
theorem fnExactDbOk_holds : Rows.FnExactDbOkSaid := RFnExactDbOk.of_pure fnExactDbOk_pure
#print axioms fnExactDbOk_holds
end Go.Proofs.Ytmkllhkhiefbnaa
