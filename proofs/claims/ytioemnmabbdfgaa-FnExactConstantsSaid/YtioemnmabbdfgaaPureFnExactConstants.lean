/- 'FnExactConstants' returns true: each constant of the program is the reference's. No input, no condition. -/
import Derived.Test.YtioemnmabbdfgaaPFnExactConstantsx1
namespace Go.Proofs.Ytioemnmabbdfgaa.Pure
open Go.RowKit Go.Proofs.Ytioemnmabbdfgaa.PFnExactConstants Go.Proofs.YtioemnmabbdfgaaW.PrintWords Go.Proofs.YtioemnmabbdfgaaW.PrintLast

/-- YOURS: laws_FnExactConstants.f  = some true
What it reaches (each with k first where it has rounds; `.mono`: more rounds tell the same; `.l0`, ..: its loops, with `.mono_l`): laws_FnExactConstants.f -/
theorem FnExactConstants : laws_FnExactConstants.Pure := by
  rfl

end Go.Proofs.Ytioemnmabbdfgaa.Pure
