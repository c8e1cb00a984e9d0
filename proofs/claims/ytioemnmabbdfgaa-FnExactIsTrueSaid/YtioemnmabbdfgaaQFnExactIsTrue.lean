/- 'FnExactIsTrue' returns true at every input that can be read: the program's IsTrue and the reference's agree. No condition. -/
import Derived.Test.YtioemnmabbdfgaaRFnExactIsTrue
namespace Go.Proofs.Ytioemnmabbdfgaa
open Go.RowKit Go.Proofs.Ytioemnmabbdfgaa.PFnExactIsTrue Go.Proofs.YtioemnmabbdfgaaW.PrintWords
theorem fnExactIsTrue_pure : RFnExactIsTrue.Pure := by
  intro x _
  unfold laws_FnExactIsTrue.f laws_szValue.f
  split <;> simp only [Option.bind_some]
  · simp
  · split
    · rfl
    · simp [laws_toValue.f, spec_IsTrue.f, impl_IsTrue.f]
      split <;> simp
theorem fnExactIsTrue_holds : Rows.FnExactIsTrueSaid := RFnExactIsTrue.of_pure fnExactIsTrue_pure
#print axioms fnExactIsTrue_holds
end Go.Proofs.Ytioemnmabbdfgaa
