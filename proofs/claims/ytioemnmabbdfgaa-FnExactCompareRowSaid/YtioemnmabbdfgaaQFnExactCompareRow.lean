/- 'FnExactCompareRow' returns true at every input that can be read: the program's CompareRow and the reference's agree, and the rows are left as they were. No condition. -/
import Derived.Test.YtioemnmabbdfgaaRFnExactCompareRow
import Derived.Test.YtioemnmabbdfgaaLFnExactCompareRow
namespace Go.Proofs.Ytioemnmabbdfgaa
open Go.RowKit Go.Proofs.Ytioemnmabbdfgaa.PFnExactCompareRow Go.Proofs.YtioemnmabbdfgaaW.PrintWords Go.Proofs.Ytioemnmabbdfgaa.ZFnExactCompareRow
theorem fnExactCompareRow_pure : RFnExactCompareRow.Pure := by
  intro x y hx hy
  refine Ev.rounds (Ev.bind (szValueS_is x hx.1 (fun z hz => (hx.2 z hz).2.2) 1048576 (by omega) (by omega)) ?_)
  by_cases h : lft 1048576 (wtVS x) < 0
  · exact ev_if_pos h (ev_some fun _ => rfl)
  refine ev_if_neg h ?_
  obtain ⟨h1, h2⟩ := lft_nonneg h
  refine Ev.bind (szValueS_is y hy.1 (fun z hz => (hy.2 z hz).2.2) _ (by omega) (by omega)) ?_
  by_cases g : lft (lft 1048576 (wtVS x)) (wtVS y) < 0
  · exact ev_if_pos g (ev_some fun _ => rfl)
  refine ev_if_neg g ?_
  obtain ⟨g1, g2⟩ := lft_nonneg g
  have lx : x.length ≤ 1048576 := by unfold wtVS at h1; omega
  have ly : y.length ≤ 1048576 := by have e : y.length ≤ wtVS y := Nat.le_add_right _ _; omega
  have tx := toValueS_is x (by omega)
  have ty := toValueS_is y (by omega)
  have mx : (x.map toV).length ≤ 9223372036854775807 := by simp; omega
  have my : (y.map toV).length ≤ 9223372036854775807 := by simp; omega
  exact Ev.bind tx (Ev.bind ty (Ev.bind (specCompareRow_is _ _ mx) (Ev.bind tx (Ev.bind ty (Ev.bind (implCompareRow_is _ _) (ev_if_pos rfl (Ev.bind tx (Ev.bind (eqValueS_refl _ mx) (ev_if_pos rfl (Ev.bind ty (Ev.bind (eqValueS_refl _ my) (ev_some fun _ => by simp)))))))))))) 
theorem fnExactCompareRow_holds : Rows.FnExactCompareRowSaid := RFnExactCompareRow.of_pure fnExactCompareRow_pure
#print axioms fnExactCompareRow_holds
end Go.Proofs.Ytioemnmabbdfgaa
