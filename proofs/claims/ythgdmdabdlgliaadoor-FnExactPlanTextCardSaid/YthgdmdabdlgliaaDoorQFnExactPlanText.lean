/- 'FnExactPlanText' returns true at every plan that can be read: the program's PlanText and the reference's agree, and the plan is left as it was. The card: four tables of Go's library are tied to the program's text, one is pinned. No condition besides. -/
import Derived.Test.YthgdmdabdlgliaaDoorRFnExactPlanText
import Derived.Test.YthgdmdabdlgliaaDoorLFnExactPlanText
import Derived.Test.YthgdmdabdlgliaaDoorTie
import Derived.Test.YthgdmdabdlgliaaDoorCards
import Derived.SevenTiedAt
namespace Go.Proofs.YthgdmdabdlgliaaDoor
open Go Go.RowKit Go.Proofs.YthgdmdabdlgliaaDoor.PFnExactPlanText Go.Proofs.YthgdmdabdlgliaaDoorW.PrintWords Go.Proofs.YthgdmdabdlgliaaDoor.ZFnExactPlanText
theorem okE_of : ∀ (n : Nat) (x : S26), RFnExactPlanText.BN26 n x → okEN n x
  | 0, _, h => h.elim
  | n + 1, _, h => ⟨h.2.2.1.2.2, h.2.2.2.1, h.2.2.2.2.1, fun y hy => okE_of n y (h.2.2.2.2.2 y hy)⟩
theorem i64_of : ∀ (n : Nat) (x : S26), RFnExactPlanText.BN26 n x → i64EN n x
  | 0, _, h => h.elim
  | n + 1, _, h => ⟨h.2.2.1.2.1.1, h.2.2.1.2.1.2, fun y hy => i64_of n y (h.2.2.2.2.2 y hy)⟩
theorem of_BN : ∀ (n : Nat) (x : S65), RFnExactPlanText.BN65 n x → ∃ E, ∀ e, E ≤ e → okP e n x ∧ i64P e n x
  | 0, _, h => h.elim
  | n + 1, x, h => by
    obtain ⟨_, h1, ⟨e2, h2⟩, ⟨l3, h3⟩, h4, l5, h5⟩ := h
    obtain ⟨K3, hK3⟩ := ev_all (xs := x.f3) (P := fun e y => okEN e y ∧ i64EN e y) fun y hy => by
      obtain ⟨ey, hy'⟩ := h3 y hy
      exact ⟨ey, fun e he => ⟨okEN_mono ey e y he (okE_of ey y hy'), i64EN_mono ey e y he (i64_of ey y hy')⟩⟩
    obtain ⟨K5, hK5⟩ := ev_all (xs := x.f5) (P := fun e y => okP e n y ∧ i64P e n y) fun y hy => of_BN n y (h5 y hy)
    exact ⟨max e2 (max K3 K5), fun e he => ⟨⟨h1, okEN_mono e2 e _ (by omega) (okE_of e2 _ h2), l3, fun y hy => (hK3 e (by omega) y hy).1, l5, fun y hy => (hK5 e (by omega) y hy).1⟩, ⟨i64EN_mono e2 e _ (by omega) (i64_of e2 _ h2), fun y hy => (hK3 e (by omega) y hy).2, h4.1, h4.2, fun y hy => (hK5 e (by omega) y hy).2⟩⟩⟩
theorem fnExactPlanText_pure : RFnExactPlanText.Pure := by
  intro x hx
  obtain ⟨n, hn⟩ := hx
  obtain ⟨E, hE⟩ := of_BN n x hn
  obtain ⟨ho, hi⟩ := hE E (Nat.le_refl _)
  obtain ⟨K1, h1⟩ := szPlan_is E n x ho
  have e1 : Ev (fun k => laws_szPlan.f k x.f0 x.f1 x.f2.f0 x.f2.f1 x.f2.f2.f0 x.f2.f2.f1 x.f2.f2.f2 x.f2.f3 x.f2.f4 x.f3 x.f4 x.f5 1048576) (lft 1048576 (wtP E n x)) := ⟨K1, fun k hk => h1 k hk _ (by omega) (by omega)⟩
  by_cases hw : (wtP E n x : Int) ≤ 1048576
  case neg => exact Ev.rounds (Ev.bind e1 (ev_if_pos (by rw [lft_of_gt hw]; omega) (ev_some fun _ => rfl)))
  have hw' : wtP E n x ≤ 1048576 := by omega
  refine Ev.rounds (Ev.bind e1 (ev_if_neg (by rw [lft_of_le hw]; omega) ?_))
  have e2 : Ev (fun k => laws_toPlan.f k x.f0 x.f1 x.f2.f0 x.f2.f1 x.f2.f2.f0 x.f2.f2.f1 x.f2.f2.f2 x.f2.f3 x.f2.f4 x.f3 x.f4 x.f5) _ := toPlan_is E n x ho hw'
  have e4 := eqPlan_refl E n x ho hw'
  have pl := pls_is 21 (toPN E n x) (Nat.le_refl _) (gdP_to E n 21 x hw' hi) (Nat.le_trans (wtIP_to E n 21 x) hw')
  have es := pl.2 20 (by decide)
  have ei := pl.1 0 (by decide)
  generalize toPN E n x = y at *
  have fs : Ev (fun k => spec_PlanText.f k y.f0 y.f1 y.f2.f0 y.f2.f1 y.f2.f2.f0 y.f2.f2.f1 y.f2.f2.f2 y.f2.f3 y.f2.f4 y.f3 y.f4 y.f5) (mkB (plT 21 y)) := Ev.congr (fun k => rfl) (Ev.bind es (f := fun k t => some t) (ev_some fun _ => rfl))
  have fi : Ev (fun k => impl_PlanText.f k y.f0 y.f1 y.f2.f0 y.f2.f1 y.f2.f2.f0 y.f2.f2.f1 y.f2.f2.f2 y.f2.f3 y.f2.f4 y.f3 y.f4 y.f5) (mkB (plT 21 y)) := Ev.congr (fun k => rfl) (Ev.bind ei (f := fun k t => some t) (ev_some fun _ => rfl))
  exact Ev.bind e2 (Ev.bind fs (Ev.bind e2 (Ev.bind fi (ev_if_pos rfl (Ev.bind e2 (Ev.bind e4 (ev_if_pos rfl (ev_some fun _ => rfl))))))))
theorem fnExactPlanText_said : Rows.FnExactPlanTextSaid := RFnExactPlanText.of_pure fnExactPlanText_pure
theorem fnExactPlanText_holds : Rows.FnExactPlanTextCardSaid :=
  Claim7.holds_tied_plain_at .later [] [.data, .data, .data, .data, .pinned] true (true, "57efcc7cdaa1f662855ae0d0dae19fc7c59783a0138b3a6c9413b54363023d25") false
    fnExactPlanText_said (fun _ h => by cases h) (by kernel_rfl) (fun _ h => by cases h) fnExactPlanText_row_tie rfl ⟨rfl, rfl⟩ (by kernel_rfl) rfl
    (fun f fn hf hfn => by
      obtain rfl : f = 6 := Option.some.inj ((show Tryd.prog.funcNamed "loop.example/g00312/laws.FnExactPlanText" = some 6 by kernel_rfl).symm.trans hf) |>.symm
      obtain rfl : fn = Tryd.f6 := (Option.some.inj (Tryd.func6.symm.trans hfn)).symm
      exact ⟨by kernel_rfl, fun j t ht => by
        rw [Tryd.params6] at ht
        have h3 : t = 65 := by
          rcases j with _ | j
          · simpa using ht.symm
          · simp at ht
        subst h3
        exact (show Tryd.prog.wantsStandIn 65 = false by kernel_rfl)⟩)
    (by kernel_rfl)
#print axioms fnExactPlanText_holds
end Go.Proofs.YthgdmdabdlgliaaDoor
