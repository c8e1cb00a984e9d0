/- 'FnExactDecText' returns true at every number that can be read: the program's DecText and the reference's agree. The card: one table of Go's library (internal/strconv's powers of ten) is tied to the program's text. No condition besides. -/
import Derived.Test.YtmkllhkhiefbnaaDoorRFnExactDecText
import Derived.Test.YtmkllhkhiefbnaaDoorLFnExactDecText
import Derived.Test.YtmkllhkhiefbnaaDoorTie
import Derived.Test.YtmkllhkhiefbnaaDoorCards
import Derived.SevenTiedAt
namespace Go.Proofs.YtmkllhkhiefbnaaDoor
open Go Go.RowKit Go.Proofs.YtmkllhkhiefbnaaDoor.PFnExactDecText Go.Proofs.YtmkllhkhiefbnaaDoorW.PrintWords Go.Proofs.YtmkllhkhiefbnaaDoor.ZFnExactDecText
theorem fnExactDecText_pure : RFnExactDecText.Pure := by
  intro n hn
  exact Ev.rounds (Ev.bind (specDecText_is n hn.1 hn.2) (ev_bind0 (implDecText_is n hn.1 hn.2) (ev_if_pos rfl (ev_some fun _ => rfl))))
theorem fnExactDecText_said : Rows.FnExactDecTextSaid := RFnExactDecText.of_pure fnExactDecText_pure
theorem fnExactDecText_holds : Rows.FnExactDecTextCardSaid :=
  Claim7.holds_tied_plain_at .later [] [.data, .data, .data] true (true, "bfa33745907f118ed504fc0cea58fcaa985b6d24d77e8d737c62a45c64d919e2") false
    fnExactDecText_said (fun _ h => by cases h) (by kernel_rfl) (fun _ h => by cases h) fnExactDecText_row_tie rfl ⟨rfl, rfl⟩ (by kernel_rfl) rfl
    (fun f fn hf hfn => by
      obtain rfl : f = 3 := Option.some.inj ((show Tryd.prog.funcNamed "loop.example/g00312/laws.FnExactDecText" = some 3 by kernel_rfl).symm.trans hf) |>.symm
      obtain rfl : fn = Tryd.f3 := (Option.some.inj (Tryd.func3.symm.trans hfn)).symm
      exact ⟨by kernel_rfl, fun j t ht => by
        rw [Tryd.params3] at ht
        have h3 : t = 3 := by
          rcases j with _ | j
          · simpa using ht.symm
          · simp at ht
        subst h3
        exact (show Tryd.prog.wantsStandIn 3 = false by kernel_rfl)⟩)
    (by kernel_rfl)
#print axioms fnExactDecText_holds
end Go.Proofs.YtmkllhkhiefbnaaDoor
