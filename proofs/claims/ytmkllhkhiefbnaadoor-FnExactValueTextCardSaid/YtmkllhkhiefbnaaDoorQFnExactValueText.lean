/- 'FnExactValueText' returns true at every value that can be read: the program's ValueText and the reference's agree. The card: four tables of Go's library are tied to the program's text, one is pinned. No condition besides. -/
import Derived.Test.YtmkllhkhiefbnaaDoorRFnExactValueText
import Derived.Test.YtmkllhkhiefbnaaDoorLFnExactValueText
import Derived.Test.YtmkllhkhiefbnaaDoorTie
import Derived.Test.YtmkllhkhiefbnaaDoorCards
import Derived.SevenTiedAt
namespace Go.Proofs.YtmkllhkhiefbnaaDoor
open Go Go.RowKit Go.Proofs.YtmkllhkhiefbnaaDoor.PFnExactValueText Go.Proofs.YtmkllhkhiefbnaaDoorW.PrintWords Go.Proofs.YtmkllhkhiefbnaaDoor.ZFnExactValueText
theorem fnExactValueText_pure : RFnExactValueText.Pure := by
  intro x hx
  obtain ⟨_, ⟨h0, h1⟩, hl⟩ := hx
  refine Ev.rounds ?_
  refine ev_bind0 (szValue_is x.f0 x.f1 x.f2 1048576 (by decide) (by decide) (by exact_mod_cast hl)) ?_
  by_cases hs : lft 1048576 x.f2.size < 0
  · exact ev_if_pos hs (ev_some fun _ => rfl)
  · refine ev_if_neg hs (ev_bind0 rfl (Ev.bind (specValueText_is x.f0 x.f1 x.f2 h0 h1) (ev_bind0 rfl (ev_bind0 (implValueText_is x.f0 x.f1 x.f2 h0 h1) (ev_if_pos rfl (ev_some fun _ => rfl))))))
theorem fnExactValueText_said : Rows.FnExactValueTextSaid := RFnExactValueText.of_pure fnExactValueText_pure
theorem fnExactValueText_holds : Rows.FnExactValueTextCardSaid :=
  Claim7.holds_tied_plain_at .later [] [.data, .data, .data, .data, .pinned] true (true, "bfa33745907f118ed504fc0cea58fcaa985b6d24d77e8d737c62a45c64d919e2") false
    fnExactValueText_said (fun _ h => by cases h) (by kernel_rfl) (fun _ h => by cases h) fnExactValueText_row_tie rfl ⟨rfl, rfl⟩ (by kernel_rfl) rfl
    (fun f fn hf hfn => by
      obtain rfl : f = 4 := Option.some.inj ((show Tryd.prog.funcNamed "loop.example/g00312/laws.FnExactValueText" = some 4 by kernel_rfl).symm.trans hf) |>.symm
      obtain rfl : fn = Tryd.f4 := (Option.some.inj (Tryd.func4.symm.trans hfn)).symm
      exact ⟨by kernel_rfl, fun j t ht => by
        rw [Tryd.params4] at ht
        have h3 : t = 25 := by
          rcases j with _ | j
          · simpa using ht.symm
          · simp at ht
        subst h3
        exact (show Tryd.prog.wantsStandIn 25 = false by kernel_rfl)⟩)
    (by kernel_rfl)
#print axioms fnExactValueText_holds
end Go.Proofs.YtmkllhkhiefbnaaDoor
