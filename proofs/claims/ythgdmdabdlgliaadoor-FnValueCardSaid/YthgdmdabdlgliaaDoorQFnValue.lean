/- 'FnValue' returns true at every code that can be read: values are in one order; a value comes back from its bytes, and no other bytes are its; the program and the reference agree. The card: four tables of Go's library are tied to the program's text, one is pinned. No condition besides. -/
import Derived.Test.YthgdmdabdlgliaaDoorRFnValue
import Derived.Test.YthgdmdabdlgliaaDoorLFnValue
import Derived.Test.YthgdmdabdlgliaaDoorTie
import Derived.Test.YthgdmdabdlgliaaDoorCards
import Derived.SevenTiedAt
namespace Go.Proofs.YthgdmdabdlgliaaDoor
open Go Go.RowKit Go.Proofs.YthgdmdabdlgliaaDoor.PFnValue Go.Proofs.YthgdmdabdlgliaaDoorW.PrintWords Go.Proofs.YthgdmdabdlgliaaDoor.ZFnValue
theorem fnValue_pure : RFnValue.Pure := by
  intro l hl0
  by_cases hb : (l.length : Int) > 1048576
  · exact Ev.rounds (ev_bind0 rfl (ev_if_pos (decide_eq_true hb) (ev_some fun _ => rfl)))
  have hl : l.length ≤ 1048576 := by omega
  clear hl0
  obtain ⟨a, b, s, a', b', s', dC, o1, o2⟩ := drawCmp_is l hl
  obtain ⟨c, d, t, dP, o3⟩ := drawPut_is l hl
  obtain ⟨u, i, dG, hu⟩ := drawGet_is l hl
  obtain ⟨n, dN, hn⟩ := drawName_is l hl
  obtain ⟨e, dD, e0, e1⟩ := drawDec_is l hl
  have j0 := j0_is a b s a' b' s' c d t u i hu o3
  obtain ⟨_, _, t0, t1, t2⟩ := o3
  have hg := implGetValue_is u i (by omega)
  have sg := specGetValue_is u i (by omega)
  have nm : ∃ r, impl_NameOk.f n = some r ∧ Ev (fun k => spec_NameOk.f k n) r := by
    by_cases h : NameP n
    · exact ⟨true, impl_nameOk_is n true (by simp [h]), spec_nameOk_is n (by omega) true (by simp [h])⟩
    · exact ⟨false, impl_nameOk_is n false (by simp [h]), spec_nameOk_is n (by omega) false (by simp [h])⟩
  obtain ⟨r, nI, nS⟩ := nm
  refine Ev.rounds (ev_bind0 rfl (ev_if_neg (by simp; omega) (Ev.bind dC (Ev.bind (cmpE a b s a' b' s') (Ev.bind dP (Ev.bind (implPutValue_is c d t (by omega)) (Ev.bind dG (ev_bind0 hg (Ev.bind sg (Ev.bind dN (Ev.bind dD (ev_bind0 rfl (ev_if_pos rfl (Ev.bind (cmpE a' b' s' a b s) (ev_if_pos (cmpV_anti a b s a' b' s') (ev_if_neg ?_ (Ev.bind (specPutValue_is c d t (by omega)) (ev_if_pos rfl (ev_if_neg ?_ (ev_if_pos rfl (ev_bind0 (implValueOk_is c d t) (ev_bind0 (specValueOk_is c d t) (ev_if_neg ?_ (ev_bind0 (implValueText_is c d t t0 t1) (Ev.bind (specValueText_is c d t t0 t1) (ev_if_pos rfl (ev_bind0 nI (Ev.bind nS (ev_if_neg ?_ (ev_bind0 (implDecText_is e e0 e1) (Ev.bind (specDecText_is e e0 e1) ?_)))))))))))))))))))))))))))))))
  · rw [cmpV_zero]
    simp
  · simp
  · simp
  · simp
  · rw [bne_self_eq_false]
    exact j0
theorem fnValue_said : Rows.FnValueSaid := RFnValue.of_pure fnValue_pure
theorem fnValue_holds : Rows.FnValueCardSaid :=
  Claim7.holds_tied_plain_at .later [] [.data, .data, .data, .data, .pinned] true (true, "57efcc7cdaa1f662855ae0d0dae19fc7c59783a0138b3a6c9413b54363023d25") false
    fnValue_said (fun _ h => by cases h) (by kernel_rfl) (fun _ h => by cases h) fnValue_row_tie rfl ⟨rfl, rfl⟩ (by kernel_rfl) rfl
    (fun f fn hf hfn => by
      obtain rfl : f = 4 := Option.some.inj ((show Tryd.prog.funcNamed "loop.example/g00312/laws.FnValue" = some 4 by kernel_rfl).symm.trans hf) |>.symm
      obtain rfl : fn = Tryd.f4 := (Option.some.inj (Tryd.func4.symm.trans hfn)).symm
      exact ⟨by kernel_rfl, fun j t ht => by
        rw [Tryd.params4] at ht
        have h3 : t = 36 := by
          rcases j with _ | j
          · simpa using ht.symm
          · simp at ht
        subst h3
        exact (show Tryd.prog.wantsStandIn 36 = false by kernel_rfl)⟩)
    (by kernel_rfl)
#print axioms fnValue_holds
end Go.Proofs.YthgdmdabdlgliaaDoor
