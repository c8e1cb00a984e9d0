/- 'FnExactIsNull' returns true at every input that can be read: the program's IsNull and the reference's agree. No condition. -/
import Derived.Test.YtioemnmabbdfgaaRFnExactIsNull
namespace Go.Proofs.Ytioemnmabbdfgaa
open Go.RowKit Go.Proofs.Ytioemnmabbdfgaa.PFnExactIsNull Go.Proofs.YtioemnmabbdfgaaW.PrintWords
theorem fnExactIsNull_pure : RFnExactIsNull.Pure := by
  intro x _
  unfold laws_FnExactIsNull.f laws_szValue.f
  split <;> simp only [Option.bind_some]
  · simp
  · split
    · rfl
    · simp [laws_toValue.f, spec_IsNull.f, impl_IsNull.f, spec_l01Bool.f, impl_flag.f, laws_eqValue.f]
      split <;> simp
theorem fnExactIsNull_holds : Rows.FnExactIsNullSaid := RFnExactIsNull.of_pure fnExactIsNull_pure
#print axioms fnExactIsNull_holds
end Go.Proofs.Ytioemnmabbdfgaa
