/- 'FnExactGetValue' returns true at every input that can be read: the program's GetValue and the reference's agree. No condition. -/
import Derived.Test.YtioemnmabbdfgaaRFnExactGetValue
import Derived.Test.YtioemnmabbdfgaaLFnExactGetValue
namespace Go.Proofs.Ytioemnmabbdfgaa
open Go.RowKit Go.Proofs.Ytioemnmabbdfgaa.PFnExactGetValue Go.Proofs.YtioemnmabbdfgaaW.PrintWords Go.Proofs.Ytioemnmabbdfgaa.ZFnExactGetValue
theorem fnExactGetValue_pure : RFnExactGetValue.Pure := by
  intro s i hs hi
  by_cases h : (s.size : Int) > 1048576
  · exact ⟨0, if_pos h⟩
  refine Ev.rounds (ev_if_neg h ?_)
  refine Ev.bind (specGetValue_is s i (by omega)) (ev_bind0 (implGetValue_is s i (by omega)) (ev_bind0 (a := true) ?_ (ev_if_pos rfl (ev_if_pos rfl (ev_some fun _ => rfl)))))
  simp [laws_eqValue.f]
theorem fnExactGetValue_holds : Rows.FnExactGetValueSaid := RFnExactGetValue.of_pure fnExactGetValue_pure
#print axioms fnExactGetValue_holds
end Go.Proofs.Ytioemnmabbdfgaa
