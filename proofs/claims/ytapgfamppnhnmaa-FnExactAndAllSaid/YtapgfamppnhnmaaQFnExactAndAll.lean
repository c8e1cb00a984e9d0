/- 'FnExactAndAll' returns true at every input that can be read: the program's AndAll and the reference's agree, the list handed in is left as it was and none of it is kept, and the answer owns its memory, behind another call too. No condition. -/
import Derived.Test.YtapgfamppnhnmaaRFnExactAndAll
import Derived.Test.YtapgfamppnhnmaaLFnExactAndAll
namespace Go.Proofs.Ytapgfamppnhnmaa
open Go.RowKit Go.Proofs.Ytapgfamppnhnmaa.PFnExactAndAll Go.Proofs.YtapgfamppnhnmaaW.PrintWords Go.Proofs.Ytapgfamppnhnmaa.ZFnExactAndAll
theorem okE_of : ∀ (n : Nat) (x : S58), RFnExactAndAll.BN58 n x → okEN n x
  | 0, _, h => h.elim
  | n + 1, _, h => ⟨h.2.2.1.2.2, h.2.2.2.1, h.2.2.2.2.1, fun y hy => okE_of n y (h.2.2.2.2.2 y hy)⟩
theorem fnExactAndAll_pure : RFnExactAndAll.Pure := by
  intro xs hx
  obtain ⟨n, hn⟩ := okES_ex (xs := xs) fun y hy => (hx.2 y hy).elim fun m hm => ⟨m, okE_of m y hm⟩
  obtain ⟨K1, h1⟩ := szExpS_is n xs hx.1 hn
  have e1 : Ev (fun k => laws_szExpS.f k xs 1048576) (lft 1048576 (wtES n xs)) := ⟨K1, fun k hk => h1 k hk _ (by omega) (by omega)⟩
  by_cases hw : (wtES n xs : Int) ≤ 1048576
  case neg => exact Ev.rounds (Ev.bind e1 (ev_if_pos (by rw [lft_of_gt hw]; omega) (ev_some fun _ => rfl)))
  have hw' : wtES n xs ≤ 1048576 := by omega
  refine Ev.rounds (Ev.bind e1 (ev_if_neg (by rw [lft_of_le hw]; omega) ?_))
  have e2 : Ev (fun k => laws_toExpS.f k xs) (xs.map (toEN n)) := toExpS_is n xs hn hw'
  obtain ⟨ys, hys⟩ : ∃ ys, ys = xs.map (toEN n) := ⟨_, rfl⟩
  rw [← hys] at e2
  have hl : ys.length ≤ 1048576 := by rw [hys, List.length_map]; exact wtES_len hw'
  have hf : ∀ y ∈ ys, finI n y := by
    intro y hy
    rw [hys] at hy
    obtain ⟨u, hu, rfl⟩ := List.mem_map.1 hy
    exact toE_fin n u (hn u hu) (wtES_mem hw' hu)
  have hd : ndS n ys ≤ 1048576 := by rw [hys]; exact Nat.le_trans (toES_nd n xs) hw'
  clear hys
  have e3 := specAndAll_is ys hl hf
  have e4 := implAndAll_is ys hl hf
  obtain ⟨p, hp⟩ := chain_fin hf
  obtain ⟨m, hm, hk⟩ := res_fin hp
  obtain ⟨c, hc⟩ : ∃ c, c = resE (chainE ys) := ⟨_, rfl⟩
  rw [← hc] at e3 e4 hm hk
  clear hc
  have e5 : Ev (fun k => laws_eqExp.f k c.f0 c.f1 c.f2.f0 c.f2.f1 c.f2.f2 c.f3 c.f4 c.f0 c.f1 c.f2.f0 c.f2.f1 c.f2.f2 c.f3 c.f4) true := eqExp_refl (m + 1) c hm
  have e6 := eqExpS_refl n ys hl hf
  obtain ⟨zs, _, m1, _⟩ := marks_is n ys 1 hf hl (by omega)
  obtain ⟨ks, _, m2, m3⟩ := marks_is m c.f4 1 hm.2 hm.1 (by omega)
  have m4 : Ev (fun k => laws_heldExp.f k c.f0 c.f1 c.f2.f0 c.f2.f1 c.f2.f2 c.f3 ks 1) ((1 + 6 * ndS m c.f4 : Nat) : Int) :=
    Ev.congr (fun k => rfl) (Ev.bind m3 (ev_if_neg (by omega) (ev_some fun _ => rfl)))
  refine Ev.bind e2 (Ev.bind e3 (Ev.bind e2 (Ev.bind e4 (Ev.bind e5 (ev_if_pos rfl (Ev.bind e2 (Ev.bind e6 (ev_if_pos rfl (Ev.bind m1 (ev_if_neg (by omega) (Ev.bind e5 ?_)))))))))))
  have hj := fun (k : Nat) => (show laws_FnExactAndAll.j0 (k + 1) xs (!true) c.f0 c.f1 c.f2.f0 c.f2.f1 c.f2.f2 c.f3 c.f4 c.f0 c.f1 c.f2.f0 c.f2.f1 c.f2.f2 c.f3 c.f4 = ite ((!true) = true) none ((laws_markExp.f k c.f0 c.f1 c.f2.f0 c.f2.f1 c.f2.f2 c.f3 c.f4 1).bind _) from rfl)
  refine Ev.step (fun k => (hj k).trans (if_neg Bool.false_ne_true)) (Ev.bind m2 (Ev.bind m4 (ev_if_neg (by omega) (ev_if_pos rfl (Ev.bind e2 (Ev.bind e4 (Ev.bind e5 (ev_if_pos rfl (Ev.bind m4 (ev_if_neg (by omega) (ev_if_pos rfl (ev_some fun _ => rfl))))))))))))
theorem fnExactAndAll_holds : Rows.FnExactAndAllSaid := RFnExactAndAll.of_pure fnExactAndAll_pure
#print axioms fnExactAndAll_holds
end Go.Proofs.Ytapgfamppnhnmaa
