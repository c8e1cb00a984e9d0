/- 'FnExactCodeText' returns true at every number: the program's CodeText is the reference's. No condition. -/
import Derived.Test.YtioemnmabbdfgaaPFnExactCodeTextx1
namespace Go.Proofs.Ytioemnmabbdfgaa.Pure
open Go.RowKit Go.Proofs.Ytioemnmabbdfgaa.PFnExactCodeText Go.Proofs.YtioemnmabbdfgaaW.PrintWords Go.Proofs.YtioemnmabbdfgaaW.PrintLast

/-- YOURS: ∀ (a0 : Int), (Lit.int .i64 a0).wf = true → laws_FnExactCodeText.f a0 = some true
What it reaches (each with k first where it has rounds; `.mono`: more rounds tell the same; `.l0`, ..: its loops, with `.mono_l`): spec_l01In.f, spec_CodeText.f, impl_within.f, impl_CodeText.f, laws_FnExactCodeText.f -/
theorem FnExactCodeText : laws_FnExactCodeText.Pure := by
  intro a _
  have e : impl_CodeText.f a = spec_CodeText.f a := rfl
  have hs : ∃ r, spec_CodeText.f a = some r := by
    unfold spec_CodeText.f spec_l01In.f
    by_cases h : a ≥ 0
    · rw [if_pos h]
      simp only [Option.bind_some]
      by_cases h' : a ≤ 4
      · rw [if_pos (by simpa using h'), if_pos h, if_pos (by simp; omega)]
        exact ⟨_, rfl⟩
      · rw [if_neg (by simpa using h')]
        exact ⟨_, rfl⟩
    · rw [if_neg h]
      exact ⟨_, rfl⟩
  obtain ⟨r, hr⟩ := hs
  unfold laws_FnExactCodeText.f
  rw [e, hr]
  simp

end Go.Proofs.Ytioemnmabbdfgaa.Pure
