/- 'FnExactNot' returns true at every input that can be read: the program's Not and the reference's agree. No condition. -/
import Derived.Test.YtioemnmabbdfgaaRFnExactNot
namespace Go.Proofs.Ytioemnmabbdfgaa
open Go.RowKit Go.Proofs.Ytioemnmabbdfgaa.PFnExactNot Go.Proofs.YtioemnmabbdfgaaW.PrintWords
theorem fnExactNot_pure : RFnExactNot.Pure := by
  intro x _
  unfold laws_FnExactNot.f laws_szValue.f
  split <;> simp only [Option.bind_some]
  · simp
  · split
    · rfl
    · simp [laws_toValue.f, spec_Not.f, impl_Not.f, spec_l01Bool.f, impl_flag.f, impl_null.f, laws_eqValue.f]
      split <;> (try split) <;> simp
theorem fnExactNot_holds : Rows.FnExactNotSaid := RFnExactNot.of_pure fnExactNot_pure
#print axioms fnExactNot_holds
end Go.Proofs.Ytioemnmabbdfgaa
