/- 'FnExactExpOk' returns true at every input that can be read: the program's ExpOk and the reference's agree, and the expression is left as it was. No condition. -/
import Derived.Test.YtmkllhkhiefbnaaRFnExactExpOk
import Derived.Test.YtmkllhkhiefbnaaLFnExactExpOk
namespace Go.Proofs.Ytmkllhkhiefbnaa
open Go.RowKit Go.Proofs.Ytmkllhkhiefbnaa.PFnExactExpOk Go.Proofs.YtmkllhkhiefbnaaW.PrintWords Go.Proofs.Ytmkllhkhiefbnaa.ZFnExactExpOk
theorem okE_of : ∀ (n : Nat) (x : S26), RFnExactExpOk.BN26 n x → okEN n x
  | 0, _, h => h.elim
  | n + 1, x, h => ⟨h.2.2.1.2.2, h.2.2.2.1, h.2.2.2.2.1, fun y hy => okE_of n y (h.2.2.2.2.2 y hy)⟩
theorem fnExactExpOk_pure : RFnExactExpOk.Pure := by
  intro x hx
  obtain ⟨n, hn⟩ := hx
  have ho := okE_of n x hn
  obtain ⟨K1, h1⟩ := szExp_is n x ho
  by_cases hw : (wtEN n x : Int) ≤ 1048576
  · have hw' : wtEN n x ≤ 1048576 := by omega
    have e1 : Ev (fun k => laws_szExp.f k x.f0 x.f1 x.f2.f0 x.f2.f1 x.f2.f2 x.f3 x.f4 1048576) (lft 1048576 (wtEN n x)) := ⟨K1, fun k hk => h1 k hk _ (by omega) (by omega)⟩
    have e2 : Ev (fun k => laws_toExp.f k x.f0 x.f1 x.f2.f0 x.f2.f1 x.f2.f2 x.f3 x.f4) _ := toExp_is n x ho hw'
    have e3 := eqExp_refl n x ho hw'
    have hs := toE_short n 13 x hw'
    refine Ev.rounds (Ev.bind e1 (ev_if_neg (by rw [lft_of_le hw]; omega) ?_))
    exact Ev.bind e2 (Ev.bind (spec_expOk_is _ hs) (Ev.bind e2 (Ev.bind (impl_expOk_is _ hs) (ev_if_neg (by simp) (Ev.bind e2 (Ev.bind e3 (ev_some fun _ => by simp)))))))
  · have e1 : Ev (fun k => laws_szExp.f k x.f0 x.f1 x.f2.f0 x.f2.f1 x.f2.f2 x.f3 x.f4 1048576) (lft 1048576 (wtEN n x)) := ⟨K1, fun k hk => h1 k hk _ (by omega) (by omega)⟩
    exact Ev.rounds (Ev.bind e1 (ev_if_pos (by rw [lft_of_gt hw]; omega) (ev_some fun _ => rfl)))
theorem fnExactExpOk_holds : Rows.FnExactExpOkSaid := RFnExactExpOk.of_pure fnExactExpOk_pure
#print axioms fnExactExpOk_holds
end Go.Proofs.Ytmkllhkhiefbnaa
