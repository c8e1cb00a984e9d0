/- 'FnExactReckon' returns true at every input that can be read: the program's Reckon and the reference's agree. No condition. -/
import Derived.Test.YtmkllhkhiefbnaaRFnExactReckon
import Derived.Test.YtmkllhkhiefbnaaLFnExactReckon
namespace Go.Proofs.Ytmkllhkhiefbnaa
open Go.RowKit Go.Proofs.Ytmkllhkhiefbnaa.PFnExactReckon Go.Proofs.YtmkllhkhiefbnaaW.PrintWords Go.Proofs.Ytmkllhkhiefbnaa.ZFnExactReckon
theorem eqValue_self (a b : Int) (s : ByteArray) : laws_eqValue.f a b s a b s = some true := by simp [laws_eqValue.f]
theorem fnExactReckon_pure : RFnExactReckon.Pure := by
  intro op x y hop hx hy
  refine Ev.rounds ?_
  unfold laws_FnExactReckon.f
  by_cases h : (op.size : Int) > 1048576
  · exact ev_if_pos h (ev_some fun _ => rfl)
  refine ev_if_neg h (ev_bind0 (szValue_is x.f0 x.f1 x.f2 1048576 (by omega) (by omega) hx.2.2) ?_)
  by_cases h1 : lft 1048576 x.f2.size < 0
  · exact ev_if_pos h1 (ev_some fun _ => rfl)
  obtain ⟨a1, a2⟩ := lft_nonneg h1
  refine ev_if_neg h1 (ev_bind0 (szValue_is y.f0 y.f1 y.f2 _ (by omega) (by omega) hy.2.2) ?_)
  by_cases h2 : lft (lft 1048576 x.f2.size) y.f2.size < 0
  · exact ev_if_pos h2 (ev_some fun _ => rfl)
  obtain ⟨b1, b2⟩ := lft_nonneg h2
  refine ev_if_neg h2 ?_
  have hs := spec_reckon_is op x.f0 x.f1 x.f2 y.f0 y.f1 y.f2 hx.2.1.1 hx.2.1.2 (by omega) (by omega)
  have hi := impl_reckon_is op x.f0 x.f1 x.f2 y.f0 y.f1 y.f2 (by omega)
  exact ev_bind0 rfl (ev_bind0 rfl (Ev.bind hs (ev_bind0 rfl (ev_bind0 rfl (Ev.bind hi (ev_bind0 (eqValue_self _ _ _) (ev_if_pos rfl (ev_some fun _ => rfl))))))))
theorem fnExactReckon_holds : Rows.FnExactReckonSaid := RFnExactReckon.of_pure fnExactReckon_pure
#print axioms fnExactReckon_holds
end Go.Proofs.Ytmkllhkhiefbnaa
