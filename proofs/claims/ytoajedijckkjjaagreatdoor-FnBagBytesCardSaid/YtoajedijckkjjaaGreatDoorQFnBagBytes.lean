/- 'FnBagBytes' returns true at every code that can be read: a bag comes back from its bytes, and no other bytes are its; the program and the reference agree. The card: four tables of Go's library are tied to the program's text, one is pinned. No condition besides. -/
import Derived.Test.YtoajedijckkjjaaGreatDoorRFnBagBytes
import Derived.Test.YtoajedijckkjjaaGreatDoorLFnBagBytes
import Derived.Test.YtoajedijckkjjaaGreatDoorTie
import Derived.Test.YtoajedijckkjjaaGreatDoorCards
import Derived.SevenTiedAt
namespace Go.Proofs.YtoajedijckkjjaaGreatDoor
open Go Go.RowKit Go.Proofs.YtoajedijckkjjaaGreatDoor.PFnBagBytes Go.Proofs.YtoajedijckkjjaaGreatDoorW.PrintWords Go.Proofs.YtoajedijckkjjaaGreatDoor.ZFnBagBytes
open Classical in
theorem fnBagBytes_j0 (W : Int) (xs : List S47) (ok : okB xs) (o1 : xs.length ≤ 1048576) (o2 : ∀ c ∈ xs, c.f0.length ≤ 1048576) (o3 : ∀ c ∈ xs, ∀ v ∈ c.f0, bX v) : Ev (fun k => laws_FnBagBytes.j0 k (mkB (if BagP W xs then encB W xs else [])) false W xs) true := by
  have sO := spec_bagOk_is W xs o1 o2 (decide (BagP W xs)) decide_eq_true_iff
  have sz := putB_size W xs ok
  have gT := implGetBag_is (mkB (if BagP W xs then encB W xs else [])) (by rw [mkB_size]; omega)
  by_cases hp : BagP W xs
  · rw [if_pos hp] at gT ⊢
    rw [resS_enc W xs hp o3] at gT
    have hj := fun (q : Bool) (k : Nat) => (show laws_FnBagBytes.j0 (k + 1) (mkB (encB W xs)) q W xs = ite (q = true) none _ from rfl)
    refine Ev.step (fun k => (hj false k).trans (if_neg Bool.false_ne_true)) ?_
    refine ev_if_neg (fun h => ?_) ?_
    · rw [toList_data] at h
      exact absurd (show encB W xs = [] from h) (by unfold encB; simp)
    refine Ev.bind gT ?_
    refine ev_if_pos rfl ?_
    exact Ev.bind (sameBag_refl W xs (by have := ok.1; omega) (fun c hc => by have := (ok.2 c hc).1.1; omega)) (ev_some fun _ => rfl)
  · rw [if_neg hp]
    rw [decide_eq_false hp] at sO
    have hj := fun (q : Bool) (k : Nat) => (show laws_FnBagBytes.j0 (k + 1) (mkB []) q W xs = ite (q = true) none _ from rfl)
    refine Ev.step (fun k => (hj false k).trans (if_neg Bool.false_ne_true)) ?_
    refine ev_if_pos ?_ ?_
    · rw [toList_data]; rfl
    · exact Ev.bind sO (ev_some fun _ => rfl)
open Classical in
theorem fnBagBytes_pure : RFnBagBytes.Pure := by
  intro l hl0
  by_cases hb : (l.length : Int) > 1048576
  · exact Ev.rounds (ev_bind0 rfl (ev_if_pos (decide_eq_true hb) (ev_some fun _ => rfl)))
  have hl : l.length ≤ 1048576 := by omega
  clear hl0
  obtain ⟨W, xs, dP, ok⟩ := drawPut_is l hl
  obtain ⟨u, dG, hu⟩ := drawGet_is l hl
  have o1 : xs.length ≤ 1048576 := by have := ok.1; omega
  have o2 : ∀ c ∈ xs, c.f0.length ≤ 1048576 := fun c hc => by have := (ok.2 c hc).1.1; omega
  have o3 : ∀ c ∈ xs, ∀ v ∈ c.f0, bX v := fun c hc v hv => by
    have := ((ok.2 c hc).1.2 v hv).2.2
    exact ⟨this.1, this.2.1⟩
  obtain ⟨pI, pS⟩ := putBoth_is W xs o1 o2
  have gI := implGetBag_is u hu
  have gS := specGetBag_is u hu
  obtain ⟨b1, b2⟩ := resS_small u
  have hT := @resS_true u
  obtain ⟨t, tI, tS⟩ := bagText_is W xs o1 o2 (fun c hc => ⟨(ok.2 c hc).2, fun v hv => o3 c hc v hv⟩)
  have j0 := fnBagBytes_j0 W xs ok o1 o2 o3
  generalize resS u = r at *
  obtain ⟨w, cs, q⟩ := r
  have sr := sameBag_refl w cs (by have : cs.length ≤ 400 := b1; omega) (fun c hc => by have : c.f0.length ≤ 12 := b2 c hc; omega)
  refine Ev.rounds (ev_bind0 rfl (ev_if_neg (by simp; omega) (Ev.bind dP (Ev.bind pI (Ev.bind dG (Ev.bind gI (Ev.bind gS (Ev.bind pS (ev_if_pos rfl (ev_if_neg (by simp) (Ev.bind sr (ev_if_pos rfl ?_))))))))))))
  cases q with
  | false =>
    refine ev_if_neg (by simp) (Ev.bind tI (Ev.bind tS ?_))
    rw [show (t.toList != t.toList) = false from bne_self_eq_false _]
    exact j0
  | true =>
    obtain ⟨e1, e2⟩ := hT rfl
    have e1' : BagP w cs := e1
    have e2' : encB w cs = u.data.toList := e2
    obtain ⟨qI, _⟩ := putBoth_is w cs (by have : cs.length ≤ 400 := b1; omega) (fun c hc => by have : c.f0.length ≤ 12 := b2 c hc; omega)
    rw [if_pos e1'] at qI
    refine ev_if_pos rfl (Ev.bind qI (ev_if_pos ?_ (Ev.bind tI (Ev.bind tS ?_))))
    · rw [toList_data, toList_data, ← e2']; rfl
    · rw [show (t.toList != t.toList) = false from bne_self_eq_false _]
      exact j0
theorem fnBagBytes_said : Rows.FnBagBytesSaid := RFnBagBytes.of_pure fnBagBytes_pure
theorem fnBagBytes_holds : Rows.FnBagBytesCardSaid :=
  Claim7.holds_tied_plain_at .later [] [.data, .data, .data, .data, .pinned] true (true, "0047eb218dadda2a1072863508e4f72c7e7ac2d63afa03600646d73c0abeddd8") false
    fnBagBytes_said (fun _ h => by cases h) (by kernel_rfl) (fun _ h => by cases h) fnBagBytes_row_tie rfl ⟨rfl, rfl⟩ (by kernel_rfl) rfl
    (fun f fn hf hfn => by
      obtain rfl : f = 3 := Option.some.inj ((show Tryz.prog.funcNamed "loop.example/g00312/laws.FnBagBytes" = some 3 by kernel_rfl).symm.trans hf) |>.symm
      obtain rfl : fn = Tryz.f3 := (Option.some.inj (Tryz.func3.symm.trans hfn)).symm
      exact ⟨by kernel_rfl, fun j t ht => by
        rw [Tryz.params3] at ht
        have h3 : t = 22 := by
          rcases j with _ | j
          · simpa using ht.symm
          · simp at ht
        subst h3
        exact (show Tryz.prog.wantsStandIn 22 = false by kernel_rfl)⟩)
    (by kernel_rfl)
#print axioms fnBagBytes_holds
end Go.Proofs.YtoajedijckkjjaaGreatDoor
