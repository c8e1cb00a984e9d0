/- 'FnExactBagText' returns true at every bag that can be read: the program's BagText and the reference's agree, and the bag is left as it was. The card: four tables of Go's library are tied to the program's text, one is pinned. No condition besides. -/
import Derived.Test.YthgdmdabdlgliaaDoorRFnExactBagText
import Derived.Test.YthgdmdabdlgliaaDoorLFnExactBagText
import Derived.Test.YthgdmdabdlgliaaDoorTie
import Derived.Test.YthgdmdabdlgliaaDoorCards
import Derived.SevenTiedAt
namespace Go.Proofs.YthgdmdabdlgliaaDoor
open Go Go.RowKit Go.Proofs.YthgdmdabdlgliaaDoor.PFnExactBagText Go.Proofs.YthgdmdabdlgliaaDoorW.PrintWords Go.Proofs.YthgdmdabdlgliaaDoor.ZFnExactBagText
theorem fnExactBagText_pure : RFnExactBagText.Pure := by
  intro x hx
  refine Ev.rounds (Ev.bind (szBag_is x.f0 x.f1 hx.2.1 (fun y hy => ⟨(hx.2.2 y hy).1.1, fun z hz => ((hx.2.2 y hy).1.2 z hz).2.2⟩) 1048576 (by omega) (by omega)) ?_)
  by_cases h : lft 1048576 (wtCS x.f1) < 0
  · exact ev_if_pos h (ev_some fun _ => rfl)
  refine ev_if_neg h ?_
  obtain ⟨h1, h2⟩ := lft_nonneg h
  obtain ⟨b1, b2⟩ := bag_bounds h1 (by omega)
  have tx := toBag_is x.f0 x.f1 (by omega) (fun y hy => by have := b2 y hy; omega)
  have ml : (x.f1.map toC).length ≤ 1048576 := by simpa using b1
  have mx : (x.f1.map toC).length ≤ 9223372036854775807 := by omega
  have ex := eqBag_refl x.f0 _ mx (toC_len fun y hy => by have := b2 y hy; omega)
  obtain ⟨t, ti, ts⟩ := bagText_is x.f0 (x.f1.map toC) ml (toC_len b2) (fun c hc => by
    obtain ⟨y, hy, rfl⟩ := List.mem_map.1 hc
    refine ⟨(hx.2.2 y hy).2, fun v hv => ?_⟩
    obtain ⟨u, hu, rfl⟩ := List.mem_map.1 (show v ∈ y.f0.map toV from hv)
    exact ((hx.2.2 y hy).1.2 u hu).2.1)
  exact Ev.bind tx (Ev.bind ts (Ev.bind tx (Ev.bind ti (ev_if_pos rfl (Ev.bind tx (Ev.bind ex (ev_if_pos rfl (ev_some fun _ => rfl))))))))
theorem fnExactBagText_said : Rows.FnExactBagTextSaid := RFnExactBagText.of_pure fnExactBagText_pure
theorem fnExactBagText_holds : Rows.FnExactBagTextCardSaid :=
  Claim7.holds_tied_plain_at .later [] [.data, .data, .data, .data, .pinned] true (true, "57efcc7cdaa1f662855ae0d0dae19fc7c59783a0138b3a6c9413b54363023d25") false
    fnExactBagText_said (fun _ h => by cases h) (by kernel_rfl) (fun _ h => by cases h) fnExactBagText_row_tie rfl ⟨rfl, rfl⟩ (by kernel_rfl) rfl
    (fun f fn hf hfn => by
      obtain rfl : f = 5 := Option.some.inj ((show Tryd.prog.funcNamed "loop.example/g00312/laws.FnExactBagText" = some 5 by kernel_rfl).symm.trans hf) |>.symm
      obtain rfl : fn = Tryd.f5 := (Option.some.inj (Tryd.func5.symm.trans hfn)).symm
      exact ⟨by kernel_rfl, fun j t ht => by
        rw [Tryd.params5] at ht
        have h3 : t = 54 := by
          rcases j with _ | j
          · simpa using ht.symm
          · simp at ht
        subst h3
        exact (show Tryd.prog.wantsStandIn 54 = false by kernel_rfl)⟩)
    (by kernel_rfl)
#print axioms fnExactBagText_holds
end Go.Proofs.YthgdmdabdlgliaaDoor
