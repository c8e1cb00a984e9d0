/- 'FnExactTypesOf' returns true at every input that can be read: the program's TypesOf and the reference's agree, and what came in is left as it was. No condition. -/
import Derived.Test.YtmkllhkhiefbnaaRFnExactTypesOf
import Derived.Test.YtmkllhkhiefbnaaLFnExactTypesOf
namespace Go.Proofs.Ytmkllhkhiefbnaa
open Go.RowKit Go.Proofs.Ytmkllhkhiefbnaa.PFnExactTypesOf Go.Proofs.YtmkllhkhiefbnaaW.PrintWords Go.Proofs.Ytmkllhkhiefbnaa.ZFnExactTypesOf
theorem fnExactTypesOf_pure : RFnExactTypesOf.Pure := by
  intro x y hx hy
  refine Ev.rounds (Ev.bind (szRelS_is x hx.1 (fun z hz => ⟨(hx.2 z hz).1, (hx.2 z hz).2.2.1, fun u hu => ⟨((hx.2 z hz).2.2.2 u hu).1.1, fun v hv => (((hx.2 z hz).2.2.2 u hu).1.2 v hv).2.2⟩⟩) 1048576 (by omega) (by omega)) ?_)
  by_cases h : lft 1048576 (wtRS x) < 0
  · exact ev_if_pos h (ev_some fun _ => rfl)
  refine ev_if_neg h ?_
  obtain ⟨h1, h2⟩ := lft_nonneg h
  refine Ev.bind (szSchemaS_is y hy.1 (fun z hz => ⟨(hy.2 z hz).1, (hy.2 z hz).2.1, (hy.2 z hz).2.2⟩) _ (by omega) (by omega)) ?_
  by_cases g : lft (lft 1048576 (wtRS x)) (wtSS y) < 0
  · exact ev_if_pos g (ev_some fun _ => rfl)
  refine ev_if_neg g ?_
  obtain ⟨g1, g2⟩ := lft_nonneg g
  obtain ⟨bx, bx'⟩ := rel_bounds h1 (by omega)
  obtain ⟨by1, by2⟩ := schema_bounds g1 (by omega)
  have tx := toRelS_is x (by omega) bx'
  have ty := toSchemaS_is y (by omega) by2
  have mx : (x.map toR).length ≤ 9223372036854775807 := by simp; omega
  have my : (y.map toS).length ≤ 9223372036854775807 := by simp; omega
  have ex := eqRelS_refl _ mx (toR_len bx')
  have ey := eqSchemaS_refl _ my (fun z hz => by
    obtain ⟨u, hu, rfl⟩ := List.mem_map.1 hz
    have := by2 u hu
    simp [toS]; omega)
  exact Ev.bind tx (Ev.bind ty (Ev.bind (specTypesOf_is _ _ mx) (Ev.bind tx (Ev.bind ty (ev_bind0 (implTypesOf_is _ _) (ev_if_neg (by simp) (Ev.bind tx (Ev.bind ex (ev_if_pos rfl (Ev.bind ty (Ev.bind ey (ev_some fun _ => by simp))))))))))))
theorem fnExactTypesOf_holds : Rows.FnExactTypesOfSaid := RFnExactTypesOf.of_pure fnExactTypesOf_pure
#print axioms fnExactTypesOf_holds
end Go.Proofs.Ytmkllhkhiefbnaa
