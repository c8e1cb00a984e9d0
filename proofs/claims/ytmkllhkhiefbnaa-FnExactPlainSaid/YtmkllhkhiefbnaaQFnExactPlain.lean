/- 'FnExactPlain' returns true at every input that can be read: the program's Plain and the reference's agree, and the bag is left as it was. No condition. -/
import Derived.Test.YtmkllhkhiefbnaaRFnExactPlain
import Derived.Test.YtmkllhkhiefbnaaLFnExactPlain
namespace Go.Proofs.Ytmkllhkhiefbnaa
open Go.RowKit Go.Proofs.Ytmkllhkhiefbnaa.PFnExactPlain Go.Proofs.YtmkllhkhiefbnaaW.PrintWords Go.Proofs.Ytmkllhkhiefbnaa.ZFnExactPlain
open Classical in
theorem fnExactPlain_pure : RFnExactPlain.Pure := by
  intro x hx
  refine Ev.rounds (Ev.bind (szBag_is x.f0 x.f1 hx.2.1 (fun y hy => ⟨(hx.2.2 y hy).1.1, fun z hz => ((hx.2.2 y hy).1.2 z hz).2.2⟩) 1048576 (by omega) (by omega)) ?_)
  by_cases h : lft 1048576 (wtCS x.f1) < 0
  · exact ev_if_pos h (ev_some fun _ => rfl)
  refine ev_if_neg h ?_
  obtain ⟨h1, h2⟩ := lft_nonneg h
  obtain ⟨b1, b2⟩ := bag_bounds h1 (by omega)
  have tx := toBag_is x.f0 x.f1 (by omega) (fun y hy => by have := b2 y hy; omega)
  have ml : (x.f1.map toC).length ≤ 1048576 := by simpa using b1
  have mx : (x.f1.map toC).length ≤ 9223372036854775807 := by omega
  have ex := eqBag_refl x.f0 _ mx (toC_len fun y hy => by have := b2 y hy; omega)
  exact Ev.bind tx (Ev.bind (spec_plain_is _ _ ml (toC_len b2) (decide (PlainP x.f0 (x.f1.map toC))) decide_eq_true_iff) (Ev.bind tx (Ev.bind (impl_plain_is _ _ ml (decide (PlainP x.f0 (x.f1.map toC))) decide_eq_true_iff) (ev_if_neg (by simp) (Ev.bind tx (Ev.bind ex (ev_some fun _ => by simp)))))))
theorem fnExactPlain_holds : Rows.FnExactPlainSaid := RFnExactPlain.of_pure fnExactPlain_pure
#print axioms fnExactPlain_holds
end Go.Proofs.Ytmkllhkhiefbnaa
