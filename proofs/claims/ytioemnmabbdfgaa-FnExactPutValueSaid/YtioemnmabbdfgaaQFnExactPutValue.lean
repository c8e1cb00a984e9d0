/- 'FnExactPutValue' returns true at every input that can be read: the program's PutValue and the reference's agree. No condition. -/
import Derived.Test.YtioemnmabbdfgaaRFnExactPutValue
import Derived.Test.YtioemnmabbdfgaaLFnExactPutValue
namespace Go.Proofs.Ytioemnmabbdfgaa
open Go.RowKit Go.Proofs.Ytioemnmabbdfgaa.PFnExactPutValue Go.Proofs.YtioemnmabbdfgaaW.PrintWords Go.Proofs.Ytioemnmabbdfgaa.ZFnExactPutValue
theorem fnExactPutValue_pure : RFnExactPutValue.Pure := by
  intro x hx
  refine Ev.rounds (ev_bind0 (szValue_is x.f0 x.f1 x.f2 1048576 (by omega) (by omega) hx.2.2) ?_)
  by_cases h : lft 1048576 x.f2.size < 0
  · exact ev_if_pos h (ev_some fun _ => rfl)
  refine ev_if_neg h ?_
  have hs : x.f2.size ≤ 1048576 := by have := (lft_nonneg h).1; omega
  exact ev_bind0 rfl (Ev.bind (specPutValue_is _ _ _ hs) (ev_bind0 rfl (Ev.bind (implPutValue_is _ _ _ hs) (ev_if_pos rfl (ev_some fun _ => rfl)))))
theorem fnExactPutValue_holds : Rows.FnExactPutValueSaid := RFnExactPutValue.of_pure fnExactPutValue_pure
#print axioms fnExactPutValue_holds
end Go.Proofs.Ytioemnmabbdfgaa
