/- 'FnExactPutBag' returns true at every bag that can be read: the program's PutBag and the reference's agree, and the bag is left as it was. No condition. -/
import Derived.Test.YtnibegacjmnhoaaRFnExactPutBag
import Derived.Test.YtnibegacjmnhoaaLFnExactPutBag
namespace Go.Proofs.Ytnibegacjmnhoaa
open Go.RowKit Go.Proofs.Ytnibegacjmnhoaa.PFnExactPutBag Go.Proofs.YtnibegacjmnhoaaW.PrintWords Go.Proofs.Ytnibegacjmnhoaa.ZFnExactPutBag
theorem fnExactPutBag_pure : RFnExactPutBag.Pure := by
  intro x hx
  refine Ev.rounds (Ev.bind (szBag_is x.f0 x.f1 hx.2.1 (fun y hy => ⟨(hx.2.2 y hy).1.1, fun z hz => ((hx.2.2 y hy).1.2 z hz).2.2⟩) 1048576 (by omega) (by omega)) ?_)
  by_cases h : lft 1048576 (wtCS x.f1) < 0
  · exact ev_if_pos h (ev_some fun _ => rfl)
  refine ev_if_neg h ?_
  obtain ⟨h1, h2⟩ := lft_nonneg h
  obtain ⟨b1, b2⟩ := bag_bounds h1 (by omega)
  have tx := toBag_is x.f0 x.f1 (by omega) (fun y hy => by have := b2 y hy; omega)
  have ml : (x.f1.map toC).length ≤ 1048576 := by simpa using b1
  have mx : (x.f1.map toC).length ≤ 9223372036854775807 := by omega
  have ex := eqBag_refl x.f0 _ mx (toC_len fun y hy => by have := b2 y hy; omega)
  obtain ⟨t, ti, ts⟩ := putBag_is x.f0 (x.f1.map toC) ml (toC_len b2)
  exact Ev.bind tx (Ev.bind ts (Ev.bind tx (Ev.bind ti (ev_if_pos rfl (Ev.bind tx (Ev.bind ex (ev_if_pos rfl (ev_some fun _ => rfl))))))))
theorem fnExactPutBag_holds : Rows.FnExactPutBagSaid := RFnExactPutBag.of_pure fnExactPutBag_pure
#print axioms fnExactPutBag_holds
end Go.Proofs.Ytnibegacjmnhoaa
