/- 'FnExactBagOf' returns true at every input that can be read: the program's BagOf and the reference's agree, the rows handed in are left as they were and none of them is kept, and the answer owns its memory. No condition. -/
import Derived.Test.YtapgfamppnhnmaaRFnExactBagOf
import Derived.Test.YtapgfamppnhnmaaLFnExactBagOf
namespace Go.Proofs.Ytapgfamppnhnmaa
open Go.RowKit Go.Proofs.Ytapgfamppnhnmaa.PFnExactBagOf Go.Proofs.YtapgfamppnhnmaaW.PrintWords Go.Proofs.Ytapgfamppnhnmaa.ZFnExactBagOf
theorem fnExactBagOf_pure : RFnExactBagOf.Pure := by
  intro x0 x1 _ hx
  refine Ev.rounds (Ev.bind (szValueSS_is x1 hx.1 (fun r hr => ⟨(hx.2 r hr).1, fun v hv => ((hx.2 r hr).2 v hv).2.2⟩) 1048576 (by omega) (by omega)) ?_)
  by_cases h : lft 1048576 (wtVSS x1) < 0
  · exact ev_if_pos h (ev_some fun _ => rfl)
  refine ev_if_neg h ?_
  obtain ⟨h1, _⟩ := lft_nonneg h
  obtain ⟨b0, b1, b2⟩ := rows_bounds h1 (by omega)
  have t0 := toValueSS_is x1 b0 (fun r hr => Nat.le_trans (b1 r hr) (by omega))
  have c0 : (toVV x1).length ≤ 1048576 := by unfold toVV; simpa using b0
  have c1 : ∀ r ∈ toVV x1, r.length ≤ 1048576 := by
    intro r hr
    unfold toVV at hr
    obtain ⟨y, hy, rfl⟩ := List.mem_map.1 hr
    simpa using b1 y hy
  have c2 : ((toVV x1).map List.length).sum ≤ 1048576 := by
    have e : (toVV x1).map List.length = x1.map List.length := by
      unfold toVV
      rw [List.map_map]
      exact List.map_congr_left fun y _ => by simp
    rw [e]; exact b2
  have hs := specBagOf_is (toVV x1) c0 c1 x0
  have hi := implBagOf_is (toVV x1) c0 c1 x0
  obtain ⟨r1, r2, r3⟩ := rightB_bounds x0 (putAll [] (toVV x1))
  have he := eqBag_refl (rightB x0 (putAll [] (toVV x1))).1 (rightB x0 (putAll [] (toVV x1))).2 (by omega) (fun c hc => Nat.le_trans (r3 c hc) (by omega))
  have hr := eqValueSS_refl (toVV x1) (by omega) (fun r hr => Nat.le_trans (c1 r hr) (by omega))
  obtain ⟨e, ys, hm, he0⟩ := markVV_is (toVV x1) c1 c0 c2
  obtain ⟨f, zs, hn, hh, hf0⟩ := marks_is (rightB x0 (putAll [] (toVV x1))).1 (rightB x0 (putAll [] (toVV x1))).2 r2 r3
  refine Ev.bind t0 (Ev.bind hs (Ev.bind t0 (Ev.bind hi (Ev.bind he (ev_if_pos rfl (Ev.bind t0 (Ev.bind hr (ev_if_pos rfl (Ev.bind hm (ev_if_neg (by show ¬ e < 0; omega) (Ev.bind he ?_)))))))))))
  have hj := fun (k : Nat) => (show laws_FnExactBagOf.j0 (k + 1) x0 x1 (!true) (rightB x0 (putAll [] (toVV x1))).1 (rightB x0 (putAll [] (toVV x1))).2 (rightB x0 (putAll [] (toVV x1))).1 (rightB x0 (putAll [] (toVV x1))).2 = ite ((!true) = true) none ((laws_markBag.f k (rightB x0 (putAll [] (toVV x1))).1 (rightB x0 (putAll [] (toVV x1))).2 1).bind _) from rfl)
  refine Ev.step (fun k => (hj k).trans (if_neg Bool.false_ne_true)) (Ev.bind hn (Ev.bind hh (ev_if_neg (by omega) (ev_if_pos rfl (Ev.bind t0 (Ev.bind hi (Ev.bind he (ev_if_pos rfl (Ev.bind hh (ev_if_neg (by omega) (ev_if_pos rfl (ev_some fun _ => rfl))))))))))))
theorem fnExactBagOf_holds : Rows.FnExactBagOfSaid := RFnExactBagOf.of_pure fnExactBagOf_pure
#print axioms fnExactBagOf_holds
end Go.Proofs.Ytapgfamppnhnmaa
