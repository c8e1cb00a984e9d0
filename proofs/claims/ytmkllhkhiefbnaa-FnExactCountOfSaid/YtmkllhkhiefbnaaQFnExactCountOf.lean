/- 'FnExactCountOf' returns true at every input that can be read: the program's CountOf and the reference's agree, and what came in is left as it was. No condition. -/
import Derived.Test.YtmkllhkhiefbnaaRFnExactCountOf
import Derived.Test.YtmkllhkhiefbnaaLFnExactCountOf
namespace Go.Proofs.Ytmkllhkhiefbnaa
open Go.RowKit Go.Proofs.Ytmkllhkhiefbnaa.PFnExactCountOf Go.Proofs.YtmkllhkhiefbnaaW.PrintWords Go.Proofs.Ytmkllhkhiefbnaa.ZFnExactCountOf
theorem fnExactCountOf_pure : RFnExactCountOf.Pure := by
  intro x y hx hy
  refine Ev.rounds (Ev.bind (szBag_is x.f0 x.f1 hx.2.1 (fun y hy => ⟨(hx.2.2 y hy).1.1, fun z hz => ((hx.2.2 y hy).1.2 z hz).2.2⟩) 1048576 (by omega) (by omega)) ?_)
  by_cases h : lft 1048576 (wtCS x.f1) < 0
  · exact ev_if_pos h (ev_some fun _ => rfl)
  refine ev_if_neg h ?_
  obtain ⟨h1, h2⟩ := lft_nonneg h
  refine Ev.bind (szValueS_is y hy.1 (fun z hz => (hy.2 z hz).2.2) _ (by omega) (by omega)) ?_
  by_cases g : lft (lft 1048576 (wtCS x.f1)) (wtVS y) < 0
  · exact ev_if_pos g (ev_some fun _ => rfl)
  refine ev_if_neg g ?_
  obtain ⟨g1, g2⟩ := lft_nonneg g
  obtain ⟨b1, b2⟩ := bag_bounds h1 (by omega)
  have ly : y.length ≤ 1048576 := by have e : y.length ≤ wtVS y := Nat.le_add_right _ _; omega
  have tx := toBag_is x.f0 x.f1 (by omega) (fun y hy => by have := b2 y hy; omega)
  have ty := toValueS_is y (by omega)
  have ml : (x.f1.map toC).length ≤ 1048576 := by simpa using b1
  have mx : (x.f1.map toC).length ≤ 9223372036854775807 := by omega
  have my : (y.map toV).length ≤ 9223372036854775807 := by simp; omega
  have ex := eqBag_refl x.f0 _ mx (toC_len fun y hy => by have := b2 y hy; omega)
  exact Ev.bind tx (Ev.bind ty (Ev.bind (specCountOf_is _ _ _ ml (toC_len b2)) (Ev.bind tx (Ev.bind ty (Ev.bind (implCountOf_is _ _ _) (ev_if_pos rfl (Ev.bind tx (Ev.bind ex (ev_if_pos rfl (Ev.bind ty (Ev.bind (eqValueS_refl _ my) (ev_some fun _ => by simp))))))))))))
theorem fnExactCountOf_holds : Rows.FnExactCountOfSaid := RFnExactCountOf.of_pure fnExactCountOf_pure
#print axioms fnExactCountOf_holds
end Go.Proofs.Ytmkllhkhiefbnaa
