/- 'FnReckon' returns true at every code that can be read: the program's arithmetic and the reference's agree; 'and', 'or' are even and true as they are to be; 'not' goes over to the parts; one of less, equal, greater holds; a quotient leaves what is nearer to nought than the divisor, on its side. No condition. -/
import Derived.Test.YthgdmdabdlgliaaRFnReckon
import Derived.Test.YthgdmdabdlgliaaLFnReckon
namespace Go.Proofs.Ythgdmdabdlgliaa
open Go.RowKit Go.Proofs.Ythgdmdabdlgliaa.PFnReckon Go.Proofs.YthgdmdabdlgliaaW.PrintWords Go.Proofs.Ythgdmdabdlgliaa.ZFnReckon
theorem fnReckon_pure : RFnReckon.Pure := by
  intro l hl0
  by_cases hb : (l.length : Int) > 1048576
  · exact Ev.rounds (ev_bind0 rfl (ev_if_pos (decide_eq_true hb) (ev_some fun _ => rfl)))
  have hl : l.length ≤ 1048576 := by omega
  clear hl0
  obtain ⟨op, a, b, s, a', b', s', dR, ⟨b0, b1, z0⟩, c0, c1, z1⟩ := drawReck_is l hl
  obtain ⟨p, q, t, dN⟩ := drawNot_is l hl
  have iR := impl_reckon_is op a b s a' b' s' (by omega)
  have sR := spec_reckon_is op a b s a' b' s' b0 b1 (by omega) (by omega)
  have j0 := j0_is a b s a' b' s' b0 b1 c0 c1 (by omega) (by omega)
  refine Ev.rounds (ev_bind0 rfl (ev_if_neg (by simp; omega) (Ev.bind dR (Ev.bind iR (Ev.bind dN (Ev.bind sR (ev_if_neg (by simp) (ev_bind0 (implNot_is _ _ _) (ev_bind0 (specNot_is _ _ _) (ev_if_neg (by simp) (ev_bind0 (implIsNull_is _ _ _) (ev_bind0 (specIsNull_is _ _ _) (ev_if_neg (by simp) (ev_bind0 (implIsTrue_is _ _ _) (ev_bind0 (specIsTrue_is _ _ _) (ev_if_neg (by simp) (ev_bind0 (specValueOk_is _ _ _) ?_)))))))))))))))))
  cases h1 : okV a b s.data.toList with
  | false => exact ev_if_neg (by simp) j0
  | true =>
    refine ev_if_pos rfl (ev_bind0 (specValueOk_is _ _ _) ?_)
    cases h2 : okV a' b' s'.data.toList with
    | false => exact ev_if_neg (by simp) j0
    | true =>
      refine ev_if_pos rfl (ev_bind0 ((implValueOk_is _ _ _).trans (congrArg some (okT_reck op.toList (a, b, s) (a', b', s')))) ?_)
      exact j0
theorem fnReckon_holds : Rows.FnReckonSaid := RFnReckon.of_pure fnReckon_pure
#print axioms fnReckon_holds
end Go.Proofs.Ythgdmdabdlgliaa
