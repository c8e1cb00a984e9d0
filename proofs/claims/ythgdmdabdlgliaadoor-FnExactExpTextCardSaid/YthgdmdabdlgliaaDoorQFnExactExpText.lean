/- 'FnExactExpText' returns true at every expression that can be read: the program's ExpText and the reference's agree, and the expression is left as it was. The card: four tables of Go's library are tied to the program's text, one is pinned. No condition besides. -/
import Derived.Test.YthgdmdabdlgliaaDoorRFnExactExpText
import Derived.Test.YthgdmdabdlgliaaDoorLFnExactExpText
import Derived.Test.YthgdmdabdlgliaaDoorTie
import Derived.Test.YthgdmdabdlgliaaDoorCards
import Derived.SevenTiedAt
namespace Go.Proofs.YthgdmdabdlgliaaDoor
open Go Go.RowKit Go.Proofs.YthgdmdabdlgliaaDoor.PFnExactExpText Go.Proofs.YthgdmdabdlgliaaDoorW.PrintWords Go.Proofs.YthgdmdabdlgliaaDoor.ZFnExactExpText
theorem okE_of : ∀ (n : Nat) (x : S26), RFnExactExpText.BN26 n x → okEN n x
  | 0, _, h => h.elim
  | n + 1, _, h => ⟨h.2.2.1.2.2, h.2.2.2.1, h.2.2.2.2.1, fun y hy => okE_of n y (h.2.2.2.2.2 y hy)⟩
theorem i64_of : ∀ (n : Nat) (x : S26), RFnExactExpText.BN26 n x → i64EN n x
  | 0, _, h => h.elim
  | n + 1, _, h => ⟨h.2.2.1.2.1.1, h.2.2.1.2.1.2, fun y hy => i64_of n y (h.2.2.2.2.2 y hy)⟩
theorem fnExactExpText_pure : RFnExactExpText.Pure := by
  intro x hx
  obtain ⟨n, hn⟩ := hx
  have ho := okE_of n x hn
  obtain ⟨K1, h1⟩ := szExp_is n x ho
  have e1 : Ev (fun k => laws_szExp.f k x.f0 x.f1 x.f2.f0 x.f2.f1 x.f2.f2 x.f3 x.f4 1048576) (lft 1048576 (wtEN n x)) := ⟨K1, fun k hk => h1 k hk _ (by omega) (by omega)⟩
  by_cases hw : (wtEN n x : Int) ≤ 1048576
  case neg => exact Ev.rounds (Ev.bind e1 (ev_if_pos (by rw [lft_of_gt hw]; omega) (ev_some fun _ => rfl)))
  have hw' : wtEN n x ≤ 1048576 := by omega
  refine Ev.rounds (Ev.bind e1 (ev_if_neg (by rw [lft_of_le hw]; omega) ?_))
  have e2 : Ev (fun k => laws_toExp.f k x.f0 x.f1 x.f2.f0 x.f2.f1 x.f2.f2 x.f3 x.f4) _ := toExp_is n x ho hw'
  have e4 := eqExp_refl n x ho hw'
  have hs := toE_short n 13 x hw'
  have hg := toE_good n 13 x hw' (i64_of n x hn)
  exact Ev.bind e2 (Ev.bind (specExpText_is _ hs hg) (Ev.bind e2 (Ev.bind (implExpText_is _ hs hg) (ev_if_pos rfl (Ev.bind e2 (Ev.bind e4 (ev_if_pos rfl (ev_some fun _ => rfl))))))))
theorem fnExactExpText_said : Rows.FnExactExpTextSaid := RFnExactExpText.of_pure fnExactExpText_pure
theorem fnExactExpText_holds : Rows.FnExactExpTextCardSaid :=
  Claim7.holds_tied_plain_at .later [] [.data, .data, .data, .data, .pinned] true (true, "57efcc7cdaa1f662855ae0d0dae19fc7c59783a0138b3a6c9413b54363023d25") false
    fnExactExpText_said (fun _ h => by cases h) (by kernel_rfl) (fun _ h => by cases h) fnExactExpText_row_tie rfl ⟨rfl, rfl⟩ (by kernel_rfl) rfl
    (fun f fn hf hfn => by
      obtain rfl : f = 3 := Option.some.inj ((show Tryd.prog.funcNamed "loop.example/g00312/laws.FnExactExpText" = some 3 by kernel_rfl).symm.trans hf) |>.symm
      obtain rfl : fn = Tryd.f3 := (Option.some.inj (Tryd.func3.symm.trans hfn)).symm
      exact ⟨by kernel_rfl, fun j t ht => by
        rw [Tryd.params3] at ht
        have h3 : t = 26 := by
          rcases j with _ | j
          · simpa using ht.symm
          · simp at ht
        subst h3
        exact (show Tryd.prog.wantsStandIn 26 = false by kernel_rfl)⟩)
    (by kernel_rfl)
#print axioms fnExactExpText_holds
end Go.Proofs.YthgdmdabdlgliaaDoor
