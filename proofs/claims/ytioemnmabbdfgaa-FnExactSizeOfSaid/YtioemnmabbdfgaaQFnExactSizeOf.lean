/- 'FnExactSizeOf' returns true at every input that can be read: the program's SizeOf and the reference's agree, and the bag is left as it was. No condition. -/
import Derived.Test.YtioemnmabbdfgaaRFnExactSizeOf
import Derived.Test.YtioemnmabbdfgaaLFnExactSizeOf
namespace Go.Proofs.Ytioemnmabbdfgaa
open Go.RowKit Go.Proofs.Ytioemnmabbdfgaa.PFnExactSizeOf Go.Proofs.YtioemnmabbdfgaaW.PrintWords Go.Proofs.YtioemnmabbdfgaaPlain
theorem fnExactSizeOf_pure : RFnExactSizeOf.Pure := by
  intro x hx
  refine Ev.rounds (Ev.bind (szBag_is x.f0 x.f1 hx.2.1 (fun y hy => ⟨(hx.2.2 y hy).1.1, fun z hz => ((hx.2.2 y hy).1.2 z hz).2.2⟩) 1048576 (by omega) (by omega)) ?_)
  by_cases h : lft 1048576 (wtCS x.f1) < 0
  · exact ev_if_pos h (ev_some fun _ => rfl)
  refine ev_if_neg h ?_
  obtain ⟨b1, b2⟩ := bag_bounds (lft_nonneg h).1 (by omega)
  have hto := toBag_is x.f0 x.f1 (by omega) (fun y hy => by have := b2 y hy; omega)
  have hl : (x.f1.map toC).length ≤ 9223372036854775807 := by simp; omega
  refine Ev.bind hto (Ev.bind (specSizeOf_is _ _ hl) (Ev.bind hto (Ev.bind (implSizeOf_is _ _ hl) (ev_if_pos rfl (Ev.bind hto (Ev.bind (eqBag_refl _ _ hl (toC_len fun y hy => by have := b2 y hy; omega)) (ev_some fun _ => by simp)))))))
theorem fnExactSizeOf_holds : Rows.FnExactSizeOfSaid := RFnExactSizeOf.of_pure fnExactSizeOf_pure
#print axioms fnExactSizeOf_holds
end Go.Proofs.Ytioemnmabbdfgaa
