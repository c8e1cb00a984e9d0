/- 'FnExactGetBag' returns true at every string: the program's GetBag and the reference's agree, and the answer owns its memory. No condition. -/
import Derived.Test.YtnibegacjmnhoaaRFnExactGetBag
import Derived.Test.YtnibegacjmnhoaaLFnExactGetBag
namespace Go.Proofs.Ytnibegacjmnhoaa
open Go.RowKit Go.Proofs.Ytnibegacjmnhoaa.PFnExactGetBag Go.Proofs.YtnibegacjmnhoaaW.PrintWords Go.Proofs.Ytnibegacjmnhoaa.ZFnExactGetBag
theorem fnExactGetBag_pure : RFnExactGetBag.Pure := by
  intro x hx
  refine Ev.rounds (g := fun k => laws_FnExactGetBag.f k x) ?_
  by_cases h : (x.size : Int) > 1048576
  · exact Ev.congr (fun k => if_pos h) (ev_some fun _ => rfl)
  refine Ev.congr (fun k => if_neg h) ?_
  have hs : x.size ≤ 1048576 := by omega
  obtain ⟨b1, b2⟩ := resS_small x
  have hsp := specGetBag_is x hs
  have him := implGetBag_is x hs
  generalize resS x = r at *
  obtain ⟨w, cs, ok⟩ := r
  have ex := eqBag_refl w cs (by have : cs.length ≤ 400 := b1; omega) (fun y hy => by have := b2 y hy; omega)
  obtain ⟨e, ys, m1, m2, m3⟩ := marks_is w cs b1 b2
  have hj := fun (q : Bool) (k : Nat) => (show laws_FnExactGetBag.j0 (k + 1) x ok q w cs w cs = ite (q = true) none _ from rfl)
  have hk := fun (q : Bool) (k : Nat) => (show laws_FnExactGetBag.j1 (k + 1) e q w ys = ite (q = true) none _ from rfl)
  refine Ev.bind hsp (Ev.bind him (Ev.bind ex (ev_if_pos rfl ?_)))
  show Ev (fun k => laws_FnExactGetBag.j0 k x ok (ok != ok) w cs w cs) true
  rw [bne_self_eq_false]
  refine Ev.step (fun k => (hj false k).trans (if_neg Bool.false_ne_true)) (Ev.bind m1 (Ev.bind m2 (ev_if_neg (by omega) (ev_if_pos rfl (Ev.bind him (Ev.bind ex (ev_if_pos rfl ?_)))))))
  show Ev (fun k => laws_FnExactGetBag.j1 k e (ok != ok) w ys) true
  rw [bne_self_eq_false]
  exact Ev.step (fun k => (hk false k).trans (if_neg Bool.false_ne_true)) (Ev.bind m2 (ev_if_neg (by omega) (ev_if_pos rfl (ev_some fun _ => rfl))))
theorem fnExactGetBag_holds : Rows.FnExactGetBagSaid := RFnExactGetBag.of_pure fnExactGetBag_pure
#print axioms fnExactGetBag_holds
end Go.Proofs.Ytnibegacjmnhoaa
