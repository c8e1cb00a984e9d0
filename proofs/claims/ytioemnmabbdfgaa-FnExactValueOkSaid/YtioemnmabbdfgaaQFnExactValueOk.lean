/- 'FnExactValueOk' returns true at every input that can be read: the program's ValueOk and the reference's agree. No condition. -/
import Derived.Test.YtioemnmabbdfgaaRFnExactValueOk
namespace Go.Proofs.Ytioemnmabbdfgaa
open Go.RowKit Go.Proofs.Ytioemnmabbdfgaa.PFnExactValueOk Go.Proofs.YtioemnmabbdfgaaW.PrintWords
theorem valueOk_some (a b : Int) (s : ByteArray) : ∃ r, spec_ValueOk.f a b s = some r := by
  unfold spec_ValueOk.f spec_l01In.f
  repeat' split
  all_goals first | exact ⟨_, rfl⟩ | (simp only [Option.bind_some]; split <;> exact ⟨_, rfl⟩)
theorem fnExactValueOk_pure : RFnExactValueOk.Pure := by
  intro x _
  unfold laws_FnExactValueOk.f laws_szValue.f
  split <;> simp only [Option.bind_some]
  · simp
  · split
    · rfl
    · have e : impl_ValueOk.f x.f0 x.f1 x.f2 = spec_ValueOk.f x.f0 x.f1 x.f2 := rfl
      obtain ⟨r, hr⟩ := valueOk_some x.f0 x.f1 x.f2
      simp only [laws_toValue.f, Option.bind_some, e, hr]
      simp
theorem fnExactValueOk_holds : Rows.FnExactValueOkSaid := RFnExactValueOk.of_pure fnExactValueOk_pure
#print axioms fnExactValueOk_holds
end Go.Proofs.Ytioemnmabbdfgaa
