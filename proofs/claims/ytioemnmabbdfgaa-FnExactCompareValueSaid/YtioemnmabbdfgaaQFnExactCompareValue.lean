/- 'FnExactCompareValue' returns true at every input that can be read: the program's CompareValue and the reference's agree. No condition. -/
import Derived.Test.YtioemnmabbdfgaaRFnExactCompareValue
import Derived.Test.YtioemnmabbdfgaaLFnExactCompareValue
namespace Go.Proofs.Ytioemnmabbdfgaa
open Go.RowKit Go.Proofs.Ytioemnmabbdfgaa.PFnExactCompareValue Go.Proofs.YtioemnmabbdfgaaW.PrintWords
theorem fnExactCompareValue_pure : RFnExactCompareValue.Pure := by
  intro x y hx hy
  refine ⟨4, ?_⟩
  unfold laws_FnExactCompareValue.f
  obtain ⟨r, hr, h1, h2⟩ := szValue_is x.f0 x.f1 x.f2 1048576 (by omega) (by omega) hx.2.2
  rw [hr]
  simp only [Option.bind_some]
  split
  · rfl
  · obtain ⟨r', hr', _⟩ := szValue_is y.f0 y.f1 y.f2 r (by omega) (by omega) hy.2.2
    rw [hr']
    simp only [Option.bind_some]
    split
    · rfl
    · simp only [laws_toValue.f, Option.bind_some, spec_CompareValue.f, compareValue_is 0, if_true]
theorem fnExactCompareValue_holds : Rows.FnExactCompareValueSaid := RFnExactCompareValue.of_pure fnExactCompareValue_pure
#print axioms fnExactCompareValue_holds
end Go.Proofs.Ytioemnmabbdfgaa
