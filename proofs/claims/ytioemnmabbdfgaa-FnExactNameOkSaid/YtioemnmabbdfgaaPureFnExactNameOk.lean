/- 'FnExactNameOk' returns true at every text: the program's NameOk and the reference's agree. -/
import Derived.Test.YtioemnmabbdfgaaPFnExactNameOkx1
import Derived.Test.YtioemnmabbdfgaaLFnExactNameOk
namespace Go.Proofs.Ytioemnmabbdfgaa.Pure
open Go.RowKit Go.Proofs.Ytioemnmabbdfgaa.PFnExactNameOk Go.Proofs.YtioemnmabbdfgaaW.PrintWords Go.Proofs.YtioemnmabbdfgaaW.PrintLast Go.Proofs.Ytioemnmabbdfgaa.ZFnExactNameOk

/-- YOURS: ∀ (a0 : ByteArray), a0.size ≤ 140737488351232 → ∃ k, laws_FnExactNameOk.f k a0 = some true
What it reaches (each with k first where it has rounds; `.mono`: more rounds tell the same; `.l0`, ..: its loops, with `.mono_l`): spec_l01In.f, spec_NameOk.f, impl_within.f, impl_isSmall.f, slices_IndexFunc_byte_byte.f, slices_ContainsFunc_byte_byte.f, impl_areAll_byte_1.f, impl_areAll_byte.f, impl_isDigit.f, impl_NameOk_1.f, impl_NameOk.f, laws_FnExactNameOk.f -/
theorem FnExactNameOk : laws_FnExactNameOk.Pure := by
  intro s hs
  classical
  refine Ev.rounds ?_
  unfold laws_FnExactNameOk.f
  by_cases h : (s.size : Int) > 1048576
  · exact ev_if_pos h (ev_some fun _ => rfl)
  · refine ev_if_neg h (Ev.bind (spec_nameOk_is s (by omega) (decide (NameP s)) decide_eq_true_iff) (ev_bind0 (impl_nameOk_is s (decide (NameP s)) decide_eq_true_iff) (ev_if_neg (by simp) (ev_some fun _ => rfl))))

end Go.Proofs.Ytioemnmabbdfgaa.Pure
